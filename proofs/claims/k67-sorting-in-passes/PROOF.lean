import PyProof.Rows.All
import Wide.All
import OpenK.AllK
import Wide.FinOn
import HandS.ForMost
import HandS.More
import HandS.Walk
import HandS.Deep
import HandS.IsInst
import HandS.Wide
import HandS.TupAny
import HandS.TupLe
import HandS.List
import HandS.Dict
import HandS.Small
import HandS.Defaults
import HandS.Words
import HandS.Conv
import HandS.AnyAll
import HandS.Iter
import HandS.SetFor
import HandS.SortInts
import HandS.Zip
import KE.SortData
import HandS.Strs
import HandS.Base
import HandS.Call
import HandS.Ends
import HandS.EndBits
import HandS.WordsExc
import HandS.Head0
import HandS.Head1
import HandS.Head2
import HandS.HeadEnd
import HandS.HeadHook1
import HandS.HeadHook2
import PySem.Challenge.RW_trackswhole_k67_sorting_in_passes
set_option Elab.async false
set_option linter.all false
set_option autoImplicit false
set_option maxRecDepth 100000
/-! Core1: deep data, owned values, what stands for what. -/
namespace Tw
open PySem PySem.Spec L2

/-- deep data -/
inductive D where
  | none | bool (b : Bool) | int (i : Int) | str (s : Str)
  | list (xs : List D) | tup (xs : List D) | dict (kvs : List (D × D)) | obj (c : Str) (fs : List (Str × D)) | kl (xs : List D)

/-- values with ownership: fr: frozen; bo: borrowed; the others: owned -/
inductive O where
  | fr (d : D) | bo (d : D)
  | list (xs : List O) | tup (xs : List O) | dict (kvs : List (D × D)) | obj (c : Str) (fs : List (Str × O))

/-- no object behind it -/
def D.leaf : D → Bool
  | .none => true | .bool _ => true | .int _ => true | .str _ => true | _ => false
@[simp] theorem leaf_none : D.leaf .none = true := rfl
@[simp] theorem leaf_bool (b : Bool) : D.leaf (.bool b) = true := rfl
@[simp] theorem leaf_int (i : Int) : D.leaf (.int i) = true := rfl
@[simp] theorem leaf_str (i : Str) : D.leaf (.str i) = true := rfl

def kD : Key → D
  | .inl i => .int i
  | .inr x => .str x

-- what an owned value says, as data
mutual
def O.rd : O → D
  | .fr d => d
  | .bo d => d
  | .list xs => .list (O.rds xs)
  | .tup xs => .tup (O.rds xs)
  | .dict kvs => .dict kvs
  | .obj c fs => .obj c (O.rdf fs)
def O.rds : List O → List D
  | [] => []
  | x :: xs => O.rd x :: O.rds xs
def O.rdf : List (Str × O) → List (Str × D)
  | [] => []
  | (f, x) :: xs => (f, O.rd x) :: O.rdf xs
end
-- nothing borrowed within
mutual
def O.nb : O → Bool
  | .fr _ => true
  | .bo d => d.leaf
  | .list xs => O.nbs xs
  | .tup xs => O.nbs xs
  | .dict _ => true
  | .obj _ fs => O.nbf fs
def O.nbs : List O → Bool
  | [] => true
  | x :: xs => O.nb x && O.nbs xs
def O.nbf : List (Str × O) → Bool
  | [] => true
  | (_, x) :: xs => O.nb x && O.nbf xs
end
@[simp] theorem rds_map {α : Type} (f : α → O) : ∀ xs : List α, O.rds (xs.map f) = xs.map fun x => (f x).rd
  | [] => by simp [O.rds]
  | x :: xs => by simp [O.rds, rds_map f xs]
theorem rds_eq : ∀ xs : List O, O.rds xs = xs.map O.rd
  | [] => by simp [O.rds]
  | x :: xs => by simp [O.rds, rds_eq xs]
theorem nbs_eq : ∀ xs : List O, O.nbs xs = xs.all O.nb
  | [] => by simp [O.nbs]
  | x :: xs => by simp [O.nbs, nbs_eq xs]
@[simp] theorem nbs_fr {α : Type} (f : α → D) (xs : List α) : O.nbs (xs.map fun x => O.fr (f x)) = true := by
  rw [nbs_eq]; simp [O.nb]
@[simp] theorem rd_fr (d : D) : O.rd (.fr d) = d := by simp [O.rd]
@[simp] theorem rd_bo (d : D) : O.rd (.bo d) = d := by simp [O.rd]
@[simp] theorem rd_list (xs : List O) : O.rd (.list xs) = .list (O.rds xs) := by simp [O.rd]
@[simp] theorem rd_tup (xs : List O) : O.rd (.tup xs) = .tup (O.rds xs) := by simp [O.rd]
@[simp] theorem rd_dict (xs) : O.rd (.dict xs) = .dict xs := by simp [O.rd]
@[simp] theorem rd_obj (c fs) : O.rd (.obj c fs) = .obj c (O.rdf fs) := by simp [O.rd]
@[simp] theorem rds_nil : O.rds [] = [] := by simp [O.rds]
@[simp] theorem rds_cons (x : O) (xs : List O) : O.rds (x :: xs) = x.rd :: O.rds xs := by simp [O.rds]
@[simp] theorem rds_append (xs ys : List O) : O.rds (xs ++ ys) = O.rds xs ++ O.rds ys := by simp [rds_eq]
@[simp] theorem rdf_nil : O.rdf [] = [] := by simp [O.rdf]
@[simp] theorem rdf_cons (f : Str) (x : O) (xs) : O.rdf ((f, x) :: xs) = (f, x.rd) :: O.rdf xs := by simp [O.rdf]
@[simp] theorem nb_fr (d : D) : O.nb (.fr d) = true := by simp [O.nb]
@[simp] theorem nb_bo (d : D) : O.nb (.bo d) = d.leaf := by simp [O.nb]
@[simp] theorem nb_list (xs : List O) : O.nb (.list xs) = O.nbs xs := by simp [O.nb]
@[simp] theorem nb_tup (xs : List O) : O.nb (.tup xs) = O.nbs xs := by simp [O.nb]
@[simp] theorem nb_dict (xs) : O.nb (.dict xs) = true := by simp [O.nb]
@[simp] theorem nb_obj (c fs) : O.nb (.obj c fs) = O.nbf fs := by simp [O.nb]
@[simp] theorem nbs_nil : O.nbs [] = true := by simp [O.nbs]
@[simp] theorem nbs_cons (x : O) (xs : List O) : O.nbs (x :: xs) = (x.nb && O.nbs xs) := by simp [O.nbs]
@[simp] theorem nbs_append (xs ys : List O) : O.nbs (xs ++ ys) = (O.nbs xs && O.nbs ys) := by simp [nbs_eq]
@[simp] theorem nbf_nil : O.nbf [] = true := by simp [O.nbf]
@[simp] theorem nbf_cons (f : Str) (x : O) (xs) : O.nbf ((f, x) :: xs) = (x.nb && O.nbf xs) := by simp [O.nbf]

/-! ### the value v stands for the data d in H -/
section
variable (K : PySem.W.Frag) (G : Str → Option Value)
mutual
inductive R (H : Hp) : V → D → Prop
  | non : R H .non .none
  | bl (b : Bool) : R H (.bl b) (.bool b)
  | int (i : Int) : R H (.int i) (.int i)
  | str (x : Str) : R H (.str x) (.str x)
  | lst {a : Addr} {vs : List V} {ds : List D} : Rd H a (.lst vs) → Rs H vs ds → R H (.ref a) (.list ds)
  | tup {a : Addr} {vs : List V} {ds : List D} : SqT K H a vs → Rs H vs ds → R H (.ref a) (.tup ds)
  | kl {a : Addr} {vs : List V} {ds : List D} : SqL K H a vs → Rs H vs ds → R H (.ref a) (.kl ds)
  | dic {a : Addr} {ks : List (Key × V)} {ds : List (D × D)} : Rd H a (.dK ks) → Rk H ks ds → R H (.ref a) (.dict ds)
  | obj {a C dx : Addr} {c : Str} {fs : List (Str × V)} {ds : List (Str × D)} : Rd H a (.ins C dx fs) → G c = some (.ref C) → Rf H fs ds → R H (.ref a) (.obj c ds)
inductive Rs (H : Hp) : List V → List D → Prop
  | nil : Rs H [] []
  | cons {v : V} {vs : List V} {d : D} {ds : List D} : R H v d → Rs H vs ds → Rs H (v :: vs) (d :: ds)
inductive Rk (H : Hp) : List (Key × V) → List (D × D) → Prop
  | nil : Rk H [] []
  | cons {k : Key} {v : V} {vs : List (Key × V)} {d : D} {ds : List (D × D)} : R H v d → Rk H vs ds → Rk H ((k, v) :: vs) ((kD k, d) :: ds)
inductive Rf (H : Hp) : List (Str × V) → List (Str × D) → Prop
  | nil : Rf H [] []
  | cons {f : Str} {v : V} {vs : List (Str × V)} {d : D} {ds : List (Str × D)} : R H v d → Rf H vs ds → Rf H ((f, v) :: vs) ((f, d) :: ds)
end
end
theorem Rd.same {H H' : Hp} {a : Addr} {u : HO} (s : Same H H') (r : Rd H a u) : Rd H' a u := by
  rcases r with h | ⟨o, h⟩
  · exact .inl (s _ _ h)
  · exact .inr ⟨o, s _ _ h⟩
theorem SqL.same {K : PySem.W.Frag} {H H' : Hp} {a : Addr} {xs : List V} (s : Same H H') (r : SqL K H a xs) : SqL K H' a xs := s.seq r
theorem SqT.same {K : PySem.W.Frag} {H H' : Hp} {a : Addr} {xs : List V} (s : Same H H') (r : SqT K H a xs) : SqT K H' a xs := by
  rcases r with h | h
  · exact .inl (Rd.same s h)
  · exact .inr h
section
variable {K : PySem.W.Frag} {G : Str → Option Value} {H H' : Hp}
mutual
theorem R.same (s : Same H H') : ∀ {v : V} {d : D}, R K G H v d → R K G H' v d
  | _, _, .non => .non
  | _, _, .bl b => .bl b
  | _, _, .int b => .int b
  | _, _, .str b => .str b
  | _, _, .lst h r => .lst (Rd.same s h) (Rs.same s r)
  | _, _, .tup h r => .tup (SqT.same s h) (Rs.same s r)
  | _, _, .kl h r => .kl (SqL.same s h) (Rs.same s r)
  | _, _, .dic h r => .dic (Rd.same s h) (Rk.same s r)
  | _, _, .obj h g r => .obj (Rd.same s h) g (Rf.same s r)
theorem Rs.same (s : Same H H') : ∀ {v : List V} {d : List D}, Rs K G H v d → Rs K G H' v d
  | _, _, .nil => .nil
  | _, _, .cons h t => .cons (R.same s h) (Rs.same s t)
theorem Rk.same (s : Same H H') : ∀ {v : List (Key × V)} {d : List (D × D)}, Rk K G H v d → Rk K G H' v d
  | _, _, .nil => .nil
  | _, _, .cons h t => .cons (R.same s h) (Rk.same s t)
theorem Rf.same (s : Same H H') : ∀ {v : List (Str × V)} {d : List (Str × D)}, Rf K G H v d → Rf K G H' v d
  | _, _, .nil => .nil
  | _, _, .cons h t => .cons (R.same s h) (Rf.same s t)
end
theorem R.of_leaf {v : V} {d : D} (h : R K G H v d) (l : d.leaf = true) : R K G H' v d := by
  cases h <;> first | (constructor; done) | (simp [D.leaf] at l)
theorem Rs.length : ∀ {vs : List V} {ds : List D}, Rs K G H vs ds → vs.length = ds.length
  | _, _, .nil => rfl
  | _, _, .cons _ t => by simp [Rs.length t]
theorem Rs.get : ∀ {vs : List V} {ds : List D} {i : Nat} {d : D}, Rs K G H vs ds → ds[i]? = some d → ∃ v, vs[i]? = some v ∧ R K G H v d
  | _, _, i, d, .nil, e => by simp at e
  | _, _, 0, d, .cons h _, e => by simp at e; subst e; exact ⟨_, rfl, h⟩
  | _, _, i + 1, d, .cons _ t, e => by
    obtain ⟨v, h1, h2⟩ := Rs.get (i := i) (d := d) t (by simpa using e)
    exact ⟨v, by simpa using h1, h2⟩
theorem Rs.append : ∀ {vs ws : List V} {ds es : List D}, Rs K G H vs ds → Rs K G H ws es → Rs K G H (vs ++ ws) (ds ++ es)
  | _, _, _, _, .nil, h => h
  | _, _, _, _, .cons a b, h => .cons a (Rs.append b h)
theorem Rs.drop : ∀ {vs : List V} {ds : List D} (n : Nat), Rs K G H vs ds → Rs K G H (vs.drop n) (ds.drop n)
  | _, _, 0, h => h
  | _, _, _ + 1, .nil => .nil
  | _, _, n + 1, .cons _ t => Rs.drop n t
theorem Rs.take : ∀ {vs : List V} {ds : List D} (n : Nat), Rs K G H vs ds → Rs K G H (vs.take n) (ds.take n)
  | _, _, 0, h => .nil
  | _, _, _ + 1, .nil => .nil
  | _, _, n + 1, .cons a t => .cons a (Rs.take n t)
theorem Rs.reverse {vs : List V} {ds : List D} (h : Rs K G H vs ds) : Rs K G H vs.reverse ds.reverse := by
  induction h using Rs.rec (motive_1 := fun _ _ _ => True) (motive_3 := fun _ _ _ => True) (motive_4 := fun _ _ _ => True) with
  | nil => exact .nil
  | cons a t _ ih => simp only [List.reverse_cons]; exact Rs.append ih (.cons a .nil)
  | _ => trivial
theorem Rs.ints : ∀ {vs : List V} {ns : List Int}, Rs K G H vs (ns.map D.int) → vs = ns.map V.int
  | _, [], .nil => rfl
  | _, n :: ns, .cons a t => by
    cases a
    rw [Rs.ints t]; rfl
theorem Rs.of_ints : ∀ (ns : List Int), Rs K G H (ns.map V.int) (ns.map D.int)
  | [] => .nil
  | n :: ns => .cons (.int n) (Rs.of_ints ns)
theorem Rs.bools : ∀ {vs : List V} {ns : List Bool}, Rs K G H vs (ns.map D.bool) → vs = ns.map V.bl
  | _, [], .nil => rfl
  | _, n :: ns, .cons a t => by
    cases a
    rw [Rs.bools t]; rfl
end

/-! ### owned values: S holds their own objects -/
abbrev Rg := Addr → Prop
section
variable (K : PySem.W.Frag) (G : Str → Option Value) (F B H : Hp)
mutual
inductive OR : V → O → Rg → Prop
  | fr {v : V} {d : D} {S : Rg} : R K G F v d → OR v (.fr d) S
  | bo {v : V} {d : D} {S : Rg} : R K G B v d → OR v (.bo d) S
  | list {a : Addr} {vs : List V} {os : List O} {S S1 : Rg} : H a = some (.lst vs) → S a → ORs vs os S1 → ¬ S1 a → (∀ b, S1 b → S b) → OR (.ref a) (.list os) S
  | tup {a : Addr} {vs : List V} {os : List O} {S S1 : Rg} : H a = some (.tup vs) → S a → ORs vs os S1 → ¬ S1 a → (∀ b, S1 b → S b) → OR (.ref a) (.tup os) S
  | dict {a : Addr} {ks : List (Key × V)} {ds : List (D × D)} {S : Rg} : H a = some (.dK ks) → S a → Rk K G F ks ds → OR (.ref a) (.dict ds) S
  | obj {a C dx : Addr} {c : Str} {fs : List (Str × V)} {os : List (Str × O)} {S S1 : Rg} : H a = some (.ins C dx fs) → G c = some (.ref C) → S a → ORf fs os S1 → ¬ S1 a → (∀ b, S1 b → S b) → OR (.ref a) (.obj c os) S
inductive ORs : List V → List O → Rg → Prop
  | nil {S : Rg} : ORs [] [] S
  | cons {v : V} {vs : List V} {o : O} {os : List O} {S S1 S2 : Rg} : OR v o S1 → ORs vs os S2 → (∀ b, S1 b → S2 b → False) → (∀ b, S1 b → S b) → (∀ b, S2 b → S b) → ORs (v :: vs) (o :: os) S
inductive ORf : List (Str × V) → List (Str × O) → Rg → Prop
  | nil {S : Rg} : ORf [] [] S
  | cons {f : Str} {v : V} {vs : List (Str × V)} {o : O} {os : List (Str × O)} {S S1 S2 : Rg} : OR v o S1 → ORf vs os S2 → (∀ b, S1 b → S2 b → False) → (∀ b, S1 b → S b) → (∀ b, S2 b → S b) → ORf ((f, v) :: vs) ((f, o) :: os) S
end
end
section
variable {K : PySem.W.Frag} {G : Str → Option Value} {F F' B B' H H' W : Hp}
theorem OR.sub {v : V} {o : O} {S S' : Rg} (h : OR K G F B H v o S) (s : ∀ b, S b → S' b) : OR K G F B H v o S' := by
  cases h with
  | fr r => exact .fr r
  | bo r => exact .bo r
  | list h1 h2 h3 h4 h5 => exact .list h1 (s _ h2) h3 h4 fun b q => s b (h5 b q)
  | tup h1 h2 h3 h4 h5 => exact .tup h1 (s _ h2) h3 h4 fun b q => s b (h5 b q)
  | dict h1 h2 h3 => exact .dict h1 (s _ h2) h3
  | obj h1 g h2 h3 h4 h5 => exact .obj h1 g (s _ h2) h3 h4 fun b q => s b (h5 b q)
theorem ORs.sub {v : List V} {o : List O} {S S' : Rg} (h : ORs K G F B H v o S) (s : ∀ b, S b → S' b) : ORs K G F B H v o S' := by
  cases h with
  | nil => exact .nil
  | cons a b c d e => exact .cons a b c (fun x q => s x (d x q)) fun x q => s x (e x q)
theorem ORf.sub {v : List (Str × V)} {o : List (Str × O)} {S S' : Rg} (h : ORf K G F B H v o S) (s : ∀ b, S b → S' b) : ORf K G F B H v o S' := by
  cases h with
  | nil => exact .nil
  | cons a b c d e => exact .cons a b c (fun x q => s x (d x q)) fun x q => s x (e x q)
-- F, B grow; the own objects stay
mutual
theorem OR.mono (hF : Same F F') (hB : Same B B') : ∀ {v : V} {o : O} {S : Rg}, (∀ b u, S b → H b = some u → H' b = some u) → OR K G F B H v o S → OR K G F' B' H' v o S
  | _, _, _, _, .fr r => .fr (R.same hF r)
  | _, _, _, _, .bo r => .bo (R.same hB r)
  | _, _, _, hH, .list h1 h2 h3 h4 h5 => .list (hH _ _ h2 h1) h2 (ORs.mono hF hB (fun b u q => hH b u (h5 b q)) h3) h4 h5
  | _, _, _, hH, .tup h1 h2 h3 h4 h5 => .tup (hH _ _ h2 h1) h2 (ORs.mono hF hB (fun b u q => hH b u (h5 b q)) h3) h4 h5
  | _, _, _, hH, .dict h1 h2 h3 => .dict (hH _ _ h2 h1) h2 (Rk.same hF h3)
  | _, _, _, hH, .obj h1 g h2 h3 h4 h5 => .obj (hH _ _ h2 h1) g h2 (ORf.mono hF hB (fun b u q => hH b u (h5 b q)) h3) h4 h5
theorem ORs.mono (hF : Same F F') (hB : Same B B') : ∀ {v : List V} {o : List O} {S : Rg}, (∀ b u, S b → H b = some u → H' b = some u) → ORs K G F B H v o S → ORs K G F' B' H' v o S
  | _, _, _, _, .nil => .nil
  | _, _, _, hH, .cons a b c d e => .cons (OR.mono hF hB (fun x u q => hH x u (d x q)) a) (ORs.mono hF hB (fun x u q => hH x u (e x q)) b) c d e
theorem ORf.mono (hF : Same F F') (hB : Same B B') : ∀ {v : List (Str × V)} {o : List (Str × O)} {S : Rg}, (∀ b u, S b → H b = some u → H' b = some u) → ORf K G F B H v o S → ORf K G F' B' H' v o S
  | _, _, _, _, .nil => .nil
  | _, _, _, hH, .cons a b c d e => .cons (OR.mono hF hB (fun x u q => hH x u (d x q)) a) (ORf.mono hF hB (fun x u q => hH x u (e x q)) b) c d e
end
-- as data, in a heap that has all of it
mutual
theorem OR.rd (hF : Same F W) (hB : Same B W) : ∀ {v : V} {o : O} {S : Rg}, (∀ b u, S b → H b = some u → W b = some u) → OR K G F B H v o S → R K G W v o.rd
  | _, _, _, _, .fr r => by simpa using R.same hF r
  | _, _, _, _, .bo r => by simpa using R.same hB r
  | _, _, _, hH, .list h1 h2 h3 h4 h5 => by simpa using R.lst (Rd.of (hH _ _ h2 h1)) (ORs.rd hF hB (fun b u q => hH b u (h5 b q)) h3)
  | _, _, _, hH, .tup h1 h2 h3 h4 h5 => by simpa using R.tup (SqT.of (hH _ _ h2 h1)) (ORs.rd hF hB (fun b u q => hH b u (h5 b q)) h3)
  | _, _, _, hH, .dict h1 h2 h3 => by simpa using R.dic (.inl (hH _ _ h2 h1)) (Rk.same hF h3)
  | _, _, _, hH, .obj h1 g h2 h3 h4 h5 => by simpa using R.obj (.inl (hH _ _ h2 h1)) g (ORf.rd hF hB (fun b u q => hH b u (h5 b q)) h3)
theorem ORs.rd (hF : Same F W) (hB : Same B W) : ∀ {v : List V} {o : List O} {S : Rg}, (∀ b u, S b → H b = some u → W b = some u) → ORs K G F B H v o S → Rs K G W v (O.rds o)
  | _, _, _, _, .nil => by simpa using Rs.nil
  | _, _, _, hH, .cons a b c d e => by simpa using Rs.cons (OR.rd hF hB (fun x u q => hH x u (d x q)) a) (ORs.rd hF hB (fun x u q => hH x u (e x q)) b)
theorem ORf.rd (hF : Same F W) (hB : Same B W) : ∀ {v : List (Str × V)} {o : List (Str × O)} {S : Rg}, (∀ b u, S b → H b = some u → W b = some u) → ORf K G F B H v o S → Rf K G W v (O.rdf o)
  | _, _, _, _, .nil => by simpa using Rf.nil
  | _, _, _, hH, .cons a b c d e => by simpa using Rf.cons (OR.rd hF hB (fun x u q => hH x u (d x q)) a) (ORf.rd hF hB (fun x u q => hH x u (e x q)) b)
end
-- nothing borrowed: B does not matter
mutual
theorem OR.nobo (hF : Same F W) : ∀ {v : V} {o : O} {S : Rg}, o.nb = true → (∀ b u, S b → H b = some u → W b = some u) → OR K G F B H v o S → R K G W v o.rd
  | _, _, _, _, _, .fr r => by simpa using R.same hF r
  | _, _, _, n, _, .bo r => by simpa using R.of_leaf r (by simpa using n)
  | _, _, _, n, hH, .list h1 h2 h3 h4 h5 => by simpa using R.lst (Rd.of (hH _ _ h2 h1)) (ORs.nobo hF (by simpa using n) (fun b u q => hH b u (h5 b q)) h3)
  | _, _, _, n, hH, .tup h1 h2 h3 h4 h5 => by simpa using R.tup (SqT.of (hH _ _ h2 h1)) (ORs.nobo hF (by simpa using n) (fun b u q => hH b u (h5 b q)) h3)
  | _, _, _, n, hH, .dict h1 h2 h3 => by simpa using R.dic (.inl (hH _ _ h2 h1)) (Rk.same hF h3)
  | _, _, _, n, hH, .obj h1 g h2 h3 h4 h5 => by simpa using R.obj (.inl (hH _ _ h2 h1)) g (ORf.nobo hF (by simpa using n) (fun b u q => hH b u (h5 b q)) h3)
theorem ORs.nobo (hF : Same F W) : ∀ {v : List V} {o : List O} {S : Rg}, O.nbs o = true → (∀ b u, S b → H b = some u → W b = some u) → ORs K G F B H v o S → Rs K G W v (O.rds o)
  | _, _, _, _, _, .nil => by simpa using Rs.nil
  | _, _, _, n, hH, .cons a b c d e => by
    simp only [nbs_cons, Bool.and_eq_true] at n
    simpa using Rs.cons (OR.nobo hF n.1 (fun x u q => hH x u (d x q)) a) (ORs.nobo hF n.2 (fun x u q => hH x u (e x q)) b)
theorem ORf.nobo (hF : Same F W) : ∀ {v : List (Str × V)} {o : List (Str × O)} {S : Rg}, O.nbf o = true → (∀ b u, S b → H b = some u → W b = some u) → ORf K G F B H v o S → Rf K G W v (O.rdf o)
  | _, _, _, _, _, .nil => by simpa using Rf.nil
  | _, _, _, n, hH, .cons a b c d e => by
    simp only [nbf_cons, Bool.and_eq_true] at n
    simpa using Rf.cons (OR.nobo hF n.1 (fun x u q => hH x u (d x q)) a) (ORf.nobo hF n.2 (fun x u q => hH x u (e x q)) b)
end
-- .. and any B may stand in its place
mutual
theorem OR.reB : ∀ {v : V} {o : O} {S : Rg}, o.nb = true → OR K G F B H v o S → OR K G F B' H v o S
  | _, _, _, _, .fr r => .fr r
  | _, _, _, n, .bo r => .bo (R.of_leaf r (by simpa using n))
  | _, _, _, n, .list h1 h2 h3 h4 h5 => .list h1 h2 (ORs.reB (by simpa using n) h3) h4 h5
  | _, _, _, n, .tup h1 h2 h3 h4 h5 => .tup h1 h2 (ORs.reB (by simpa using n) h3) h4 h5
  | _, _, _, n, .dict h1 h2 h3 => .dict h1 h2 h3
  | _, _, _, n, .obj h1 g h2 h3 h4 h5 => .obj h1 g h2 (ORf.reB (by simpa using n) h3) h4 h5
theorem ORs.reB : ∀ {v : List V} {o : List O} {S : Rg}, O.nbs o = true → ORs K G F B H v o S → ORs K G F B' H v o S
  | _, _, _, _, .nil => .nil
  | _, _, _, n, .cons a b c d e => by
    simp only [nbs_cons, Bool.and_eq_true] at n
    exact .cons (OR.reB n.1 a) (ORs.reB n.2 b) c d e
theorem ORf.reB : ∀ {v : List (Str × V)} {o : List (Str × O)} {S : Rg}, O.nbf o = true → ORf K G F B H v o S → ORf K G F B' H v o S
  | _, _, _, _, .nil => .nil
  | _, _, _, n, .cons a b c d e => by
    simp only [nbf_cons, Bool.and_eq_true] at n
    exact .cons (OR.reB n.1 a) (ORf.reB n.2 b) c d e
end
theorem ORs.length : ∀ {vs : List V} {os : List O} {S : Rg}, ORs K G F B H vs os S → vs.length = os.length
  | _, _, _, .nil => rfl
  | _, _, _, .cons _ t _ _ _ => by simp [ORs.length t]
end
end Tw
/-! Core2: what a pure expression gives. -/
namespace Tw
open PySem PySem.Spec L2

abbrev En := List (Option O)
abbrev LINE : Nat := 16777216
theorem line_eq : sizeLine = LINE := sizeLine_eq

/-! ### data compared -/
mutual
def D.py : D → PyData
  | .none => .none
  | .bool b => .bool b
  | .int i => .int i
  | .str s => .str s
  | .list xs => .list (D.pys xs)
  | .tup xs => .tuple (D.pys xs)
  | .dict _ => .dict []
  | .obj _ _ => .dict []
  | .kl _ => .dict []
def D.pys : List D → List PyData
  | [] => []
  | x :: xs => D.py x :: D.pys xs
end
mutual
/-- plain data of nesting at most n -/
def D.sh : D → Nat → Bool
  | .none, _ => true
  | .bool _, _ => true
  | .int _, _ => true
  | .str s, _ => PyData.strOk s
  | .list xs, n => decide (0 < n) && D.shs xs (n - 1)
  | .tup xs, n => decide (0 < n) && D.shs xs (n - 1)
  | .dict _, _ => false
  | .obj _ _, _ => false
  | .kl _, _ => false
def D.shs : List D → Nat → Bool
  | [], _ => true
  | x :: xs, n => D.sh x n && D.shs xs n
end
@[simp] theorem sh_none (n) : D.sh .none n = true := by simp [D.sh]
@[simp] theorem sh_bool (b n) : D.sh (.bool b) n = true := by simp [D.sh]
@[simp] theorem sh_int (b n) : D.sh (.int b) n = true := by simp [D.sh]
@[simp] theorem sh_str (b n) : D.sh (.str b) n = PyData.strOk b := by simp [D.sh]
@[simp] theorem sh_list (xs n) : D.sh (.list xs) (n + 1) = D.shs xs n := by simp [D.sh]
@[simp] theorem sh_tup (xs n) : D.sh (.tup xs) (n + 1) = D.shs xs n := by simp [D.sh]
@[simp] theorem shs_nil (n) : D.shs [] n = true := by simp [D.shs]
@[simp] theorem shs_cons (x xs n) : D.shs (x :: xs) n = (D.sh x n && D.shs xs n) := by simp [D.shs]
theorem shs_eq (n : Nat) : ∀ xs : List D, D.shs xs n = xs.all fun x => D.sh x n
  | [] => by simp
  | x :: xs => by simp [shs_eq n xs]
theorem shs_all {n : Nat} {xs : List D} (h : ∀ x ∈ xs, D.sh x n = true) : D.shs xs n = true := by
  rw [shs_eq]; exact List.all_eq_true.mpr h
theorem shs_map {α : Type} {n : Nat} {f : α → D} {xs : List α} (h : ∀ x ∈ xs, D.sh (f x) n = true) : D.shs (xs.map f) n = true := by
  refine shs_all fun x hx => ?_
  obtain ⟨y, hy, rfl⟩ := List.mem_map.mp hx
  exact h y hy
mutual
theorem D.lay : ∀ (d : D) (n : Nat), d.sh n = true → d.py.canLay0 = true ∧ d.py.depth ≤ n
  | .none, n, _ => by simp [D.py, PyData.canLay0, PyData.depth]
  | .bool _, n, _ => by simp [D.py, PyData.canLay0, PyData.depth]
  | .int _, n, _ => by simp [D.py, PyData.canLay0, PyData.depth]
  | .str s, n, h => by simp [D.py, PyData.canLay0, PyData.depth]; simpa [D.sh] using h
  | .list xs, n, h => by
    simp only [D.sh, Bool.and_eq_true, decide_eq_true_eq] at h
    have := D.lays xs (n - 1) h.2
    simp only [D.py, PyData.canLay0, PyData.depth]
    exact ⟨this.1, by omega⟩
  | .tup xs, n, h => by
    simp only [D.sh, Bool.and_eq_true, decide_eq_true_eq] at h
    have := D.lays xs (n - 1) h.2
    simp only [D.py, PyData.canLay0, PyData.depth]
    exact ⟨this.1, by omega⟩
  | .dict _, n, h => by simp [D.sh] at h
  | .obj _ _, n, h => by simp [D.sh] at h
  | .kl _, n, h => by simp [D.sh] at h
theorem D.lays : ∀ (d : List D) (n : Nat), D.shs d n = true → PyData.canLayAll0 (D.pys d) = true ∧ PyData.depthAll (D.pys d) ≤ n
  | [], n, _ => by simp [D.pys, PyData.canLayAll0, PyData.depthAll]
  | x :: xs, n, h => by
    simp only [D.shs, Bool.and_eq_true] at h
    have h1 := D.lay x n h.1
    have h2 := D.lays xs n h.2
    simp only [D.pys, PyData.canLayAll0, PyData.depthAll, h1.1, h2.1, Bool.and_self, true_and]
    omega
end
theorem D.shaped {d : D} {n : Nat} (h : d.sh n = true) (hn : n ≤ 64) : SeqAt.shaped d.py = true := by
  have := D.lay d n h
  unfold SeqAt.shaped
  rw [this.1, Bool.true_and]
  exact decide_eq_true (Nat.le_trans this.2 hn)
section
variable {K : PySem.W.Frag} {G : Str → Option Value} {H : Hp}
mutual
theorem R.dp : ∀ {v : V} {d : D} (n : Nat), d.sh n = true → R K G H v d → Dp K H v d.py
  | _, _, _, _, .non => by simp only [D.py]; exact .non
  | _, _, _, _, .bl b => by simp only [D.py]; exact .bl b
  | _, _, _, _, .int b => by simp only [D.py]; exact .int b
  | _, _, _, _, .str b => by simp only [D.py]; exact .str b
  | _, _, n, h, .lst a r => by
    simp only [D.sh, Bool.and_eq_true] at h
    simp only [D.py]
    exact .lst (.inl a) (Rs.dp (n - 1) h.2 r)
  | _, _, n, h, .tup a r => by
    simp only [D.sh, Bool.and_eq_true] at h
    simp only [D.py]
    exact .tup a (Rs.dp (n - 1) h.2 r)
  | _, _, _, h, .dic _ _ => by simp [D.sh] at h
  | _, _, _, h, .obj _ _ _ => by simp [D.sh] at h
  | _, _, _, h, .kl _ _ => by simp [D.sh] at h
theorem Rs.dp : ∀ {v : List V} {d : List D} (n : Nat), D.shs d n = true → Rs K G H v d → DpAll K H v (D.pys d)
  | _, _, _, _, .nil => by simp only [D.pys]; exact .nil
  | _, _, n, h, .cons a t => by
    simp only [D.shs, Bool.and_eq_true] at h
    simp only [D.pys]
    exact .cons (R.dp n h.1 a) (Rs.dp n h.2 t)
end
end
def D.eqv (a b : D) : Bool := PyData.eqv a.py b.py
def D.eqvs (a b : List D) : Bool := PyData.eqvAll (D.pys a) (D.pys b)
@[simp] theorem eqv_int (a b : Int) : D.eqv (.int a) (.int b) = decide (a = b) := by simp [D.eqv, D.py, PyData.eqv, Bool.beq_eq_decide_eq]
@[simp] theorem eqv_str (a b : Str) : D.eqv (.str a) (.str b) = decide (a = b) := by simp [D.eqv, D.py, PyData.eqv, Bool.beq_eq_decide_eq]
@[simp] theorem eqv_bool (a b : Bool) : D.eqv (.bool a) (.bool b) = decide (a = b) := by simp [D.eqv, D.py, PyData.eqv, Bool.beq_eq_decide_eq]
@[simp] theorem eqv_bool_int (a : Bool) (b : Int) : D.eqv (.bool a) (.int b) = decide ((if a then 1 else 0) = b) := by simp [D.eqv, D.py, PyData.eqv, Bool.beq_eq_decide_eq]
@[simp] theorem eqv_int_bool (a : Int) (b : Bool) : D.eqv (.int a) (.bool b) = decide (a = (if b then 1 else 0)) := by simp [D.eqv, D.py, PyData.eqv, Bool.beq_eq_decide_eq]
@[simp] theorem eqv_none : D.eqv .none .none = true := by simp [D.eqv, D.py, PyData.eqv, Bool.beq_eq_decide_eq]
@[simp] theorem eqv_list (a b : List D) : D.eqv (.list a) (.list b) = D.eqvs a b := by simp [D.eqv, D.eqvs, D.py, PyData.eqv]
@[simp] theorem eqv_tup (a b : List D) : D.eqv (.tup a) (.tup b) = D.eqvs a b := by simp [D.eqv, D.eqvs, D.py, PyData.eqv]
@[simp] theorem eqv_list_tup (a b : List D) : D.eqv (.list a) (.tup b) = false := by simp [D.eqv, D.py, PyData.eqv, Bool.beq_eq_decide_eq]
@[simp] theorem eqv_tup_list (a b : List D) : D.eqv (.tup a) (.list b) = false := by simp [D.eqv, D.py, PyData.eqv, Bool.beq_eq_decide_eq]
@[simp] theorem eqv_int_str (a b) : D.eqv (.int a) (.str b) = false := by simp [D.eqv, D.py, PyData.eqv, Bool.beq_eq_decide_eq]
@[simp] theorem eqv_str_int (a b) : D.eqv (.str a) (.int b) = false := by simp [D.eqv, D.py, PyData.eqv, Bool.beq_eq_decide_eq]
@[simp] theorem eqv_none_int (b) : D.eqv .none (.int b) = false := by simp [D.eqv, D.py, PyData.eqv, Bool.beq_eq_decide_eq]
@[simp] theorem eqv_int_none (b) : D.eqv (.int b) .none = false := by simp [D.eqv, D.py, PyData.eqv, Bool.beq_eq_decide_eq]
@[simp] theorem eqv_none_str (b) : D.eqv .none (.str b) = false := by simp [D.eqv, D.py, PyData.eqv, Bool.beq_eq_decide_eq]
@[simp] theorem eqv_str_none (b) : D.eqv (.str b) .none = false := by simp [D.eqv, D.py, PyData.eqv, Bool.beq_eq_decide_eq]
@[simp] theorem eqv_int_tup (a b) : D.eqv (.int a) (.tup b) = false := by simp [D.eqv, D.py, PyData.eqv, Bool.beq_eq_decide_eq]
@[simp] theorem eqv_tup_int (a b) : D.eqv (.tup a) (.int b) = false := by simp [D.eqv, D.py, PyData.eqv, Bool.beq_eq_decide_eq]
@[simp] theorem eqv_int_list (a b) : D.eqv (.int a) (.list b) = false := by simp [D.eqv, D.py, PyData.eqv, Bool.beq_eq_decide_eq]
@[simp] theorem eqv_list_int (a b) : D.eqv (.list a) (.int b) = false := by simp [D.eqv, D.py, PyData.eqv, Bool.beq_eq_decide_eq]
@[simp] theorem eqv_none_tup (b) : D.eqv .none (.tup b) = false := by simp [D.eqv, D.py, PyData.eqv, Bool.beq_eq_decide_eq]
@[simp] theorem eqv_tup_none (b) : D.eqv (.tup b) .none = false := by simp [D.eqv, D.py, PyData.eqv, Bool.beq_eq_decide_eq]
@[simp] theorem eqv_none_list (b) : D.eqv .none (.list b) = false := by simp [D.eqv, D.py, PyData.eqv, Bool.beq_eq_decide_eq]
@[simp] theorem eqv_list_none (b) : D.eqv (.list b) .none = false := by simp [D.eqv, D.py, PyData.eqv, Bool.beq_eq_decide_eq]
@[simp] theorem eqvs_nil : D.eqvs [] [] = true := by simp [D.eqvs, D.pys, PyData.eqvAll]
@[simp] theorem eqvs_cons (x y xs ys) : D.eqvs (x :: xs) (y :: ys) = (D.eqv x y && D.eqvs xs ys) := by simp [D.eqvs, D.eqv, D.pys, PyData.eqvAll]
@[simp] theorem eqvs_nil_cons (y ys) : D.eqvs [] (y :: ys) = false := by simp [D.eqvs, D.pys, PyData.eqvAll]
@[simp] theorem eqvs_cons_nil (y ys) : D.eqvs (y :: ys) [] = false := by simp [D.eqvs, D.pys, PyData.eqvAll]
theorem eqvs_map {α : Type} [DecidableEq α] {f : α → D} (h : ∀ x y, D.eqv (f x) (f y) = decide (x = y)) : ∀ xs ys : List α, D.eqvs (xs.map f) (ys.map f) = decide (xs = ys)
  | [], [] => by simp
  | [], _ :: _ => by simp
  | _ :: _, [] => by simp
  | x :: xs, y :: ys => by
    simp only [List.map_cons, eqvs_cons, h, eqvs_map h xs ys, List.cons.injEq]
    by_cases h1 : x = y <;> by_cases h2 : xs = ys <;> simp [h1, h2]
@[simp] theorem eqvs_ints (xs ys : List Int) : D.eqvs (xs.map D.int) (ys.map D.int) = decide (xs = ys) := eqvs_map (fun _ _ => eqv_int _ _) xs ys
@[simp] theorem eqvs_strs (xs ys : List Str) : D.eqvs (xs.map D.str) (ys.map D.str) = decide (xs = ys) := eqvs_map (fun _ _ => eqv_str _ _) xs ys
@[simp] theorem eqvs_bools (xs ys : List Bool) : D.eqvs (xs.map D.bool) (ys.map D.bool) = decide (xs = ys) := eqvs_map (fun _ _ => eqv_bool _ _) xs ys

/-! ### the state of an expression -/
section
variable (K : PySem.W.Frag) (G : Str → Option Value)
def OV (F B : Hp) (v : V) : O → Prop
  | .fr d => R K G F v d
  | .bo d => R K G B v d
  | _ => False
structure SV (F B : Hp) (σ : L2.St) (ρ : En) : Prop where
  at' : ∀ (i : Nat) (o : O), ρ[i]? = some (some o) → ∃ v, σ[i]? = some (some v) ∧ OV K G F B v o
  len : ρ.length = σ.length
end
/-- nothing changed, something new, of which some is frozen -/
structure Pst (F H F' H' : Hp) : Prop where
  same : Same H H'
  fm : Same F F'
  fs : Same F' H'
  nw : ∀ b, F' b ≠ none → F b ≠ none ∨ H b = none
theorem Pst.refl {F H : Hp} (h : Same F H) : Pst F H F H := ⟨Same.refl _, Same.refl _, h, fun _ q => .inl q⟩
theorem Same.ne {H H' : Hp} (s : Same H H') {b : Addr} (h : H b ≠ none) : H' b ≠ none := by
  cases q : H b with
  | none => exact absurd q h
  | some o => rw [s _ _ q]; simp
theorem Pst.trans {F H F1 H1 F2 H2 : Hp} (a : Pst F H F1 H1) (b : Pst F1 H1 F2 H2) : Pst F H F2 H2 :=
  ⟨a.same.trans b.same, a.fm.trans b.fm, b.fs, fun x q => by
    rcases b.nw x q with z | z
    · exact a.nw x z
    · exact .inr (a.same.free z)⟩
section
variable {K : PySem.W.Frag} {G : Str → Option Value} {F F' B H H' : Hp} {σ : St} {ρ : En}
theorem OV.mono {v : V} {o : O} (hF : Same F F') (h : OV K G F B v o) : OV K G F' B v o := by
  cases o <;> first | exact R.same hF h | exact h
theorem OV.or {v : V} {o : O} {S : Rg} (h : OV K G F B v o) : OR K G F B H v o S := by
  cases o with
  | fr d => exact .fr h
  | bo d => exact .bo h
  | _ => exact h.elim
theorem OV.rd {v : V} {o : O} (h : OV K G F B v o) (hF : Same F H) (hB : Same B H) : R K G H v o.rd := by
  cases o with
  | fr d => simpa using R.same hF h
  | bo d => simpa using R.same hB h
  | _ => exact h.elim
theorem SV.mono (hF : Same F F') (h : SV K G F B σ ρ) : SV K G F' B σ ρ := ⟨fun i o e => let ⟨v, a, b⟩ := h.at' i o e; ⟨v, a, b.mono hF⟩, h.len⟩
theorem Pst.b {F H F' H' B : Hp} (p : Pst F H F' H') (hB : Same B H) : Same B H' := hB.trans p.same
end

section
variable (K : PySem.W.Frag) (G : Str → Option Value)
/-- the region S is of one's own -/
def Own (F H : Hp) (S : Rg) : Prop := ∀ b, S b → H b ≠ none ∧ F b = none
/-- what an expression's reading asks is met wherever f says what comes -/
def ESem (t : TE) (f : En → Option O) : Prop := ∀ (F B : Hp) (σ : St) (ρ : En) (H : Hp) (o : O) (Q : VK), SV K G F B σ ρ → Same F H → Same B H → f ρ = some o →
  (∀ v F' H' S, Pst F H F' H' → OR K G F' B H' v o S → Own F' H' S → (∀ b, S b → H b = none) → Q v H') → t σ H Q
def TSem (t : TT) (f : En → Option Bool) : Prop := ∀ (F B : Hp) (σ : St) (ρ : En) (H : Hp) (o : Bool) (Q : Bool → Hp → Prop), SV K G F B σ ρ → Same F H → Same B H → f ρ = some o →
  (∀ F' H', Pst F H F' H' → Q o H') → t σ H Q
def ASem (t : TA) (f : En → Option (List O)) : Prop := ∀ (F B : Hp) (σ : St) (ρ : En) (H : Hp) (o : List O) (Q : List V → Hp → Prop), SV K G F B σ ρ → Same F H → Same B H → f ρ = some o →
  (∀ v F' H' S, Pst F H F' H' → ORs K G F' B H' v o S → Own F' H' S → (∀ b, S b → H b = none) → Q v H') → t σ H Q
/-- .. of an operation on values -/
def RSem (r : List V → Hp → VK → Prop) (g : List O → Option O) : Prop := ∀ (F B H : Hp) (vs : List V) (os : List O) (S : Rg) (o : O) (Q : VK), Same F H → Same B H → ORs K G F B H vs os S → Own F H S → (∀ b, S b → B b = none) → g os = some o →
  (∀ v F' H' S', Pst F H F' H' → OR K G F' B H' v o S' → Own F' H' S' → (∀ b, S' b → S b ∨ H b = none) → Q v H') → r vs H Q
end
structure PX (X : Cx) (e : Expr) (t : TE) (f : En → Option O) : Prop where
  run : PE X e t
  sem : ESem X.K X.mg t f
structure PTX (X : Cx) (e : Expr) (t : TT) (f : En → Option Bool) : Prop where
  run : PT X e t
  sem : TSem X.K X.mg t f
structure PAX (X : Cx) (e : List Expr) (t : TA) (f : En → Option (List O)) : Prop where
  run : PA X e t
  sem : ASem X.K X.mg t f

section
variable {K : PySem.W.Frag} {G : Str → Option Value} {F B H : Hp} {σ : St} {ρ : En} {ta tb : TE} {fa fb : En → Option O}
/-- two in a row -/
theorem sem2 (ha : ESem K G ta fa) (hb : ESem K G tb fb) {oa ob : O} {Q : V → V → Hp → Prop} (hσ : SV K G F B σ ρ) (hF : Same F H) (hB : Same B H) (ea : fa ρ = some oa) (eb : fb ρ = some ob)
    (q : ∀ va vb F' H' S, Pst F H F' H' → ORs K G F' B H' [va, vb] [oa, ob] S → Own F' H' S → (∀ b, S b → H b = none) → Q va vb H') : ta σ H fun x H1 => tb σ H1 fun y H2 => Q x y H2 := by
  refine ha F B σ ρ H oa _ hσ hF hB ea fun va F1 H1 Sa p1 r1 w1 n1 => ?_
  refine hb F1 B σ ρ H1 ob _ (hσ.mono p1.fm) p1.fs (p1.b hB) eb fun vb F2 H2 Sb p2 r2 w2 n2 => ?_
  refine q va vb F2 H2 (fun b => Sa b ∨ Sb b) (p1.trans p2) (.cons (S1 := Sa) (S2 := Sb) (r1.mono p2.fm (Same.refl _) fun b u _ e => p2.same _ _ e) (.cons (S1 := Sb) (S2 := fun _ => False) r2 .nil (fun _ _ z => z) (fun _ z => z) fun _ z => z.elim) (fun b h1 h2 => (w1 b h1).1 (n2 b h2)) (fun _ z => .inl z) fun _ z => .inr z) ?_ ?_
  · rintro b (z | z)
    · refine ⟨Same.ne p2.same (w1 b z).1, ?_⟩
      cases e : F2 b with
      | none => rfl
      | some u =>
        rcases p2.nw b (by rw [e]; simp) with y | y
        · exact absurd (w1 b z).2 y
        · exact absurd y (w1 b z).1
    · exact w2 b z
  · rintro b (z | z)
    · exact n1 b z
    · exact p1.same.free (n2 b z)
theorem Own.mono {F F' H' : Hp} {S : Rg} (w : Own F H S) (p : Pst F H F' H') : Own F' H' S := fun b z => by
  refine ⟨Same.ne p.same (w b z).1, ?_⟩
  cases e : F' b with
  | none => rfl
  | some u =>
    rcases p.nw b (by rw [e]; simp) with y | y
    · exact absurd (w b z).2 y
    · exact absurd y (w b z).1
def x1 (g : List O → Option O) (fa : En → Option O) : En → Option O := fun ρ => (fa ρ).bind fun a => g [a]
def x2 (g : List O → Option O) (fa fb : En → Option O) : En → Option O := fun ρ => (fa ρ).bind fun a => (fb ρ).bind fun b => g [a, b]
def xL (g : List O → Option O) (fa : En → Option (List O)) : En → Option O := fun ρ => (fa ρ).bind fun a => g a
theorem esem_op {r : R2} {g : List O → Option O} (hr : RSem K G (fun vs H Q => ∃ x y, vs = [x, y] ∧ r x y H Q) g) (ha : ESem K G ta fa) (hb : ESem K G tb fb) : ESem K G (tOp r ta tb) (x2 g fa fb) := by
  intro F B σ ρ H o Q hσ hF hB e q
  unfold x2 at e
  obtain ⟨oa, ea, e⟩ := Option.bind_eq_some_iff.mp e
  obtain ⟨ob, eb, e⟩ := Option.bind_eq_some_iff.mp e
  refine sem2 ha hb hσ hF hB ea eb fun va vb F1 H1 S p1 rs w n => ?_
  obtain ⟨x, y, exy, h⟩ := hr F1 B H1 [va, vb] [oa, ob] S o Q p1.fs (p1.b hB) rs w (fun b z => hB.free (n b z)) e fun v F2 H2 S' p2 r2 w2 n2 => q v F2 H2 S' (p1.trans p2) r2 w2 fun b z => (n2 b z).elim (n b) p1.same.free
  cases exy
  exact h
theorem esem_un {r : V → Hp → VK → Prop} {g : List O → Option O} (hr : RSem K G (fun vs H Q => ∃ x, vs = [x] ∧ r x H Q) g) (ha : ESem K G ta fa) : ESem K G (tUn r ta) (x1 g fa) := by
  intro F B σ ρ H o Q hσ hF hB e q
  unfold x1 at e
  obtain ⟨oa, ea, e⟩ := Option.bind_eq_some_iff.mp e
  refine ha F B σ ρ H oa _ hσ hF hB ea fun va F1 H1 S p1 rs w n => ?_
  obtain ⟨x, exy, h⟩ := hr F1 B H1 [va] [oa] S o Q p1.fs (p1.b hB) (.cons (S1 := S) (S2 := fun _ => False) rs .nil (fun _ _ z => z) (fun _ z => z) fun _ z => z.elim) w (fun b z => hB.free (n b z)) e fun v F2 H2 S' p2 r2 w2 n2 => q v F2 H2 S' (p1.trans p2) r2 w2 fun b z => (n2 b z).elim (n b) p1.same.free
  cases exy
  exact h
theorem esem_cb {r : List V → Hp → VK → Prop} {g : List O → Option O} {t : TA} {f : En → Option (List O)} (hr : RSem K G r g) (ha : ASem K G t f) : ESem K G (tCB r t) (xL g f) := by
  intro F B σ ρ H o Q hσ hF hB e q
  unfold xL at e
  obtain ⟨os, ea, e⟩ := Option.bind_eq_some_iff.mp e
  refine ha F B σ ρ H os _ hσ hF hB ea fun vs F1 H1 S p1 rs w n => ?_
  exact hr F1 B H1 vs os S o Q p1.fs (p1.b hB) rs w (fun b z => hB.free (n b z)) e fun v F2 H2 S' p2 r2 w2 n2 => q v F2 H2 S' (p1.trans p2) r2 w2 fun b z => (n2 b z).elim (n b) p1.same.free
def aNil : En → Option (List O) := fun _ => some []
def aCons (f : En → Option O) (g : En → Option (List O)) : En → Option (List O) := fun ρ => (f ρ).bind fun a => (g ρ).bind fun b => some (a :: b)
theorem asem_nil : ASem K G tNil aNil := by
  intro F B σ ρ H o Q hσ hF hB e q
  cases e
  exact q [] F H (fun _ => False) (Pst.refl hF) .nil (fun _ z => z.elim) fun _ z => z.elim
theorem asem_cons {t : TA} {f : En → Option (List O)} (ha : ESem K G ta fa) (hb : ASem K G t f) : ASem K G (tCons ta t) (aCons fa f) := by
  intro F B σ ρ H o Q hσ hF hB e q
  unfold aCons at e
  obtain ⟨oa, ea, e⟩ := Option.bind_eq_some_iff.mp e
  obtain ⟨ob, eb, e⟩ := Option.bind_eq_some_iff.mp e
  cases e
  refine ha F B σ ρ H oa _ hσ hF hB ea fun va F1 H1 Sa p1 r1 w1 n1 => ?_
  refine hb F1 B σ ρ H1 ob _ (hσ.mono p1.fm) p1.fs (p1.b hB) eb fun vb F2 H2 Sb p2 r2 w2 n2 => ?_
  refine q (va :: vb) F2 H2 (fun b => Sa b ∨ Sb b) (p1.trans p2) (.cons (S1 := Sa) (S2 := Sb) (r1.mono p2.fm (Same.refl _) fun b u _ e => p2.same _ _ e) r2 (fun b h1 h2 => (w1 b h1).1 (n2 b h2)) (fun _ z => .inl z) fun _ z => .inr z) ?_ ?_
  · rintro b (z | z)
    · exact (w1.mono p2) b z
    · exact w2 b z
  · rintro b (z | z)
    · exact n1 b z
    · exact p1.same.free (n2 b z)
end
section
variable {X : Cx} {e a b c : Expr} {es : List Expr} {ta tb tc : TE} {fa fb fc : En → Option O} {t : TA} {f : En → Option (List O)} {pos : Pos}
theorem ax_nil : PAX X [] tNil aNil := ⟨pa_nil, asem_nil⟩
theorem ax_cons (ha : PX X e ta fa) (hr : PAX X es t f) (hs : starEach (e :: es) X.env = (false, eval e X.env) :: starEach es X.env := by rfl) : PAX X (e :: es) (tCons ta t) (aCons fa f) :=
  ⟨pa_cons ha.run hr.run hs, asem_cons ha.sem hr.sem⟩

/-! ### names, constants -/
def xNm (i : Nat) : En → Option O := fun ρ => match ρ[i]? with
  | some (some o) => some o
  | _ => none
def xC (d : D) : En → Option O := fun _ => some (.fr d)
theorem esem_var {K G} (i : Nat) : ESem K G (tVar i) (xNm i) := by
  intro F B σ ρ H o Q hσ hF hB e q
  unfold xNm at e
  split at e
  · rename_i o' h
    cases e
    obtain ⟨v, hv, r⟩ := hσ.at' i _ h
    exact ⟨v, hv, q v F H (fun _ => False) (Pst.refl hF) r.or (fun _ z => z.elim) fun _ z => z.elim⟩
  · cases e
theorem esem_c {K G} {v : V} {d : D} (h : ∀ F, R K G F v d) : ESem K G (tC v) (xC d) := by
  intro F B σ ρ H o Q hσ hF hB e q
  cases e
  exact q v F H (fun _ => False) (Pst.refl hF) (.fr (h F)) (fun _ z => z.elim) fun _ z => z.elim
theorem xv (i : Nat) {x : Str} {pos : Pos} (hN : X.N[i]? = some x := by rfl) (hv : Vis X.env.scope x := by first | exact Or.inl rfl | exact Or.inr (Or.inl rfl) | exact Or.inr (Or.inr rfl)) (hd : (x == ("__debug__" : Str)) = false := by decide)
    (hcd : (x == ("__classdict__" : Str)) = false := by decide) : PX X (.Name x pos) (tVar i) (xNm i) := ⟨pe_var hN hv hd hcd, esem_var i⟩
theorem xInt {i : Int} {j pos} : PX X (.Constant (.int i) j pos) (tC (.int i)) (xC (.int i)) := ⟨pe_int, esem_c fun _ => .int i⟩
theorem xBl {b j pos} : PX X (.Constant (.bool b) j pos) (tC (.bl b)) (xC (.bool b)) := ⟨pe_bl, esem_c fun _ => .bl b⟩
theorem xNon {j pos} : PX X (.Constant .none j pos) (tC .non) (xC .none) := ⟨pe_non, esem_c fun _ => .non⟩
theorem xStr {x j pos} : PX X (.Constant (.str x) j pos) (tC (.str x)) (xC (.str x)) := ⟨pe_str, esem_c fun _ => .str x⟩
/-- a module's constant -/
theorem xGlob {x : Str} {v : V} {u : Value} {d : D} {pos : Pos} (hg : Gl X x) (hm : X.mg x = some u) (r : RelV v u) (h : ∀ F, R X.K X.mg F v d) (hd : (x == ("__debug__" : Str)) = false := by decide) : PX X (.Name x pos) (tC v) (xC d) := ⟨pe_glob hg hm r hd, esem_c h⟩

/-! ### frozen -/
def frz (o : O) : Option O := if o.nb then some (.fr o.rd) else none
@[simp] theorem frz_fr (d : D) : frz (.fr d) = some (.fr d) := by simp [frz]
def xF (f : En → Option O) : En → Option O := fun ρ => (f ρ).bind frz
/-- the region S goes to the frozen part -/
noncomputable def fold (F H : Hp) (S : Rg) : Hp := fun b => open Classical in if S b then H b else F b
theorem fold_in {F H : Hp} {S : Rg} {b : Addr} (h : S b) : fold F H S b = H b := by unfold fold; rw [if_pos h]
theorem fold_out {F H : Hp} {S : Rg} {b : Addr} (h : ¬ S b) : fold F H S b = F b := by unfold fold; rw [if_neg h]
theorem fold_same {F H : Hp} {S : Rg} (w : Own F H S) : Same F (fold F H S) := fun b o e => by
  rw [fold_out (fun z => by rw [(w b z).2] at e; cases e)]; exact e
theorem fold_sub {F H : Hp} {S : Rg} (hF : Same F H) : Same (fold F H S) H := fun b o e => by
  by_cases z : S b
  · rw [fold_in z] at e; exact e
  · rw [fold_out z] at e; exact hF _ _ e
theorem esem_frz {K G} {ta : TE} {fa : En → Option O} (ha : ESem K G ta fa) : ESem K G ta (xF fa) := by
  intro F B σ ρ H o Q hσ hF hB e q
  unfold xF at e
  obtain ⟨oa, ea, e⟩ := Option.bind_eq_some_iff.mp e
  unfold frz at e
  split at e
  · rename_i hn
    cases e
    refine ha F B σ ρ H oa _ hσ hF hB ea fun v F1 H1 S p r w n => ?_
    refine q v (fold F1 H1 S) H1 (fun _ => False) ⟨p.same, p.fm.trans (fold_same w), fold_sub p.fs, fun b z => ?_⟩ (.fr (r.nobo (fold_same w) hn fun b u z e => by rw [fold_in z]; exact e)) (fun _ z => z.elim) fun _ z => z.elim
    by_cases y : S b
    · exact .inr (n b y)
    · rw [fold_out y] at z; exact p.nw b z
  · cases e
theorem xf (ha : PX X a ta fa) : PX X a ta (xF fa) := ⟨ha.run, esem_frz ha.sem⟩
end

/-! ### helpers for operations -/
section
variable {K : PySem.W.Frag} {G : Str → Option Value} {F B H : Hp}
/-- a leaf as an operation's answer -/
theorem fin_leaf {v : V} {d : D} {Q : VK} {S : Rg} (hF : Same F H) (r : R K G F v d)
    (q : ∀ v F' H' S', Pst F H F' H' → OR K G F' B H' v (.fr d) S' → Own F' H' S' → (∀ b, S' b → S b ∨ H b = none) → Q v H') : Q v H :=
  q v F H (fun _ => False) (Pst.refl hF) (.fr r) (fun _ z => z.elim) fun _ z => z.elim
theorem ORs.one {vs : List V} {o : O} {S : Rg} (h : ORs K G F B H vs [o] S) : ∃ v, vs = [v] ∧ OR K G F B H v o S := by
  cases h with
  | cons a b c d e => cases b; exact ⟨_, rfl, a.sub d⟩
theorem ORs.two {vs : List V} {o o' : O} {S : Rg} (h : ORs K G F B H vs [o, o'] S) : ∃ v v' S1 S2, vs = [v, v'] ∧ OR K G F B H v o S1 ∧ OR K G F B H v' o' S2 ∧ (∀ b, S1 b → S2 b → False) ∧ (∀ b, S1 b → S b) ∧ (∀ b, S2 b → S b) := by
  cases h with
  | cons a b c d e =>
    obtain ⟨v', rfl, r⟩ := b.one
    exact ⟨_, v', _, _, rfl, a, r, c, d, e⟩
theorem OR.all {v : V} {o : O} {S : Rg} (h : OR K G F B H v o S) (hF : Same F H) (hB : Same B H) : R K G H v o.rd := h.rd hF hB fun _ _ _ e => e
theorem ORs.alls {v : List V} {o : List O} {S : Rg} (h : ORs K G F B H v o S) (hF : Same F H) (hB : Same B H) : Rs K G H v (O.rds o) := h.rd hF hB fun _ _ _ e => e
theorem R.int_inv {v : V} {i : Int} (h : R K G H v (.int i)) : v = .int i := by cases h; rfl
theorem R.str_inv {v : V} {i : Str} (h : R K G H v (.str i)) : v = .str i := by cases h; rfl
theorem R.bool_inv {v : V} {i : Bool} (h : R K G H v (.bool i)) : v = .bl i := by cases h; rfl
theorem R.none_inv {v : V} (h : R K G H v .none) : v = .non := by cases h; rfl
theorem R.list_inv {v : V} {ds : List D} (h : R K G H v (.list ds)) : ∃ a vs, v = .ref a ∧ Rd H a (.lst vs) ∧ Rs K G H vs ds := by cases h with | lst a b => exact ⟨_, _, rfl, a, b⟩
theorem R.tup_inv {v : V} {ds : List D} (h : R K G H v (.tup ds)) : ∃ a vs, v = .ref a ∧ SqT K H a vs ∧ Rs K G H vs ds := by cases h with | tup a b => exact ⟨_, _, rfl, a, b⟩
theorem R.dict_inv {v : V} {ds : List (D × D)} (h : R K G H v (.dict ds)) : ∃ a ks, v = .ref a ∧ Rd H a (.dK ks) ∧ Rk K G H ks ds := by cases h with | dic a b => exact ⟨_, _, rfl, a, b⟩
end

/-! ### ints -/
/-- two ints, to data -/
def gII (c : Int → Int → Bool) (g : Int → Int → D) : List O → Option O
  | [a, b] => match a.rd, b.rd with
    | .int i, .int j => if c i j then some (.fr (g i j)) else none
    | _, _ => none
  | _ => none
@[simp] theorem gII_int (c g) (i j : Int) : gII c g [.fr (.int i), .fr (.int j)] = if c i j then some (.fr (g i j)) else none := by simp [gII]
section
variable {K : PySem.W.Frag} {G : Str → Option Value}
theorem rsem_II {c : Int → Int → Bool} {g : Int → Int → D} {r : R2} {v : Int → Int → V} (hv : ∀ i j F, R K G F (v i j) (g i j)) (hr : ∀ i j H Q, c i j = true → Q (v i j) H → r (.int i) (.int j) H Q) :
    RSem K G (fun vs H Q => ∃ x y, vs = [x, y] ∧ r x y H Q) (gII c g) := by
  intro F B H vs os S o Q hF hB rs w nb e q
  unfold gII at e
  split at e
  · rename_i a b
    obtain ⟨va, vb, S1, S2, rfl, r1, r2, _⟩ := rs.two
    have q1 := r1.all hF hB
    have q2 := r2.all hF hB
    split at e
    · rename_i i j h1 h2
      rw [h1] at q1
      rw [h2] at q2
      cases q1.int_inv
      cases q2.int_inv
      split at e
      · rename_i hc
        cases e
        exact ⟨_, _, rfl, hr i j H Q hc (fin_leaf (B := B) (S := S) hF (hv i j F) q)⟩
      · cases e
    · cases e
  · cases e
end
def gAlw : Int → Int → Bool := fun _ _ => true
@[simp] theorem gAlw_t (i j : Int) : gAlw i j = true := rfl
end Tw
/-! Core3: operations. -/
namespace Tw
open PySem PySem.Spec L2

/-! ### items -/
def mkbo (d : D) : O := if d.leaf then .fr d else .bo d
@[simp] theorem mkbo_int (i : Int) : mkbo (.int i) = .fr (.int i) := rfl
@[simp] theorem mkbo_str (i : Str) : mkbo (.str i) = .fr (.str i) := rfl
@[simp] theorem mkbo_bool (i : Bool) : mkbo (.bool i) = .fr (.bool i) := rfl
@[simp] theorem mkbo_none : mkbo .none = .fr .none := rfl
@[simp] theorem mkbo_tup (xs) : mkbo (.tup xs) = .bo (.tup xs) := rfl
@[simp] theorem mkbo_list (xs) : mkbo (.list xs) = .bo (.list xs) := rfl
@[simp] theorem mkbo_dict (xs) : mkbo (.dict xs) = .bo (.dict xs) := rfl
@[simp] theorem mkbo_obj (c xs) : mkbo (.obj c xs) = .bo (.obj c xs) := rfl
@[simp] theorem rd_mkbo (d : D) : (mkbo d).rd = d := by unfold mkbo; split <;> simp
/-- the items of a list; of a tuple -/
def O.itsL : O → Option (List O)
  | .fr (.list ds) => some (ds.map .fr)
  | .bo (.list ds) => some (ds.map mkbo)
  | .list os => some os
  | _ => none
def O.itsT : O → Option (List O)
  | .fr (.tup ds) => some (ds.map .fr)
  | .bo (.tup ds) => some (ds.map mkbo)
  | .tup os => some os
  | _ => none
def O.itsK : O → Option (List O)
  | .fr (.kl ds) => some (ds.map .fr)
  | _ => none
@[simp] theorem its_frk (ds) : O.itsK (.fr (.kl ds)) = some (ds.map .fr) := rfl
@[simp] theorem its_frl (ds) : O.itsL (.fr (.list ds)) = some (ds.map .fr) := rfl
@[simp] theorem its_frt (ds) : O.itsT (.fr (.tup ds)) = some (ds.map .fr) := rfl
@[simp] theorem its_bol (ds) : O.itsL (.bo (.list ds)) = some (ds.map mkbo) := rfl
@[simp] theorem its_bot (ds) : O.itsT (.bo (.tup ds)) = some (ds.map mkbo) := rfl
@[simp] theorem its_list (ds) : O.itsL (.list ds) = some ds := rfl
@[simp] theorem its_tup (ds) : O.itsT (.tup ds) = some ds := rfl
section
variable {K : PySem.W.Frag} {G : Str → Option Value} {F F' B H H' : Hp}
theorem OR.mkbo {v : V} {d : D} {S : Rg} (h : R K G B v d) : OR K G F B H v (mkbo d) S := by
  unfold Tw.mkbo
  split
  · rename_i l; exact .fr (R.of_leaf h l)
  · exact .bo h
theorem ORs.of_fr : ∀ {vs : List V} {ds : List D} {S : Rg}, Rs K G F vs ds → ORs K G F B H vs (ds.map .fr) S
  | _, _, _, .nil => .nil
  | _, _, _, .cons a t => .cons (S1 := fun _ => False) (S2 := fun _ => False) (.fr a) (ORs.of_fr t) (fun _ z => z.elim) (fun _ z => z.elim) fun _ z => z.elim
theorem ORs.of_bo : ∀ {vs : List V} {ds : List D} {S : Rg}, Rs K G B vs ds → ORs K G F B H vs (ds.map Tw.mkbo) S
  | _, _, _, .nil => .nil
  | _, _, _, .cons a t => .cons (S1 := fun _ => False) (S2 := fun _ => False) (.mkbo a) (ORs.of_bo t) (fun _ z => z.elim) (fun _ z => z.elim) fun _ z => z.elim
theorem OR.itemsL {v : V} {o : O} {os : List O} {S : Rg} (h : OR K G F B H v o S) (hF : Same F H) (hB : Same B H) (e : o.itsL = some os) : ∃ a vs, v = .ref a ∧ Rd H a (.lst vs) ∧ ORs K G F B H vs os S := by
  cases h with
  | fr r =>
    cases r with
    | lst a r => cases e; exact ⟨_, _, rfl, Rd.same hF a, .of_fr r⟩
    | _ => cases e
  | bo r =>
    cases r with
    | lst a r => cases e; exact ⟨_, _, rfl, Rd.same hB a, .of_bo r⟩
    | _ => cases e
  | list h1 h2 h3 h4 h5 => cases e; exact ⟨_, _, rfl, .inl h1, h3.sub h5⟩
  | _ => cases e
theorem OR.itemsT {v : V} {o : O} {os : List O} {S : Rg} (h : OR K G F B H v o S) (hF : Same F H) (hB : Same B H) (e : o.itsT = some os) : ∃ a vs, v = .ref a ∧ SqT K H a vs ∧ ORs K G F B H vs os S := by
  cases h with
  | fr r =>
    cases r with
    | tup a r => cases e; exact ⟨_, _, rfl, SqT.same hF a, .of_fr r⟩
    | _ => cases e
  | bo r =>
    cases r with
    | tup a r => cases e; exact ⟨_, _, rfl, SqT.same hB a, .of_bo r⟩
    | _ => cases e
  | tup h1 h2 h3 h4 h5 => cases e; exact ⟨_, _, rfl, SqT.of h1, h3.sub h5⟩
  | _ => cases e
theorem OR.itemsK {v : V} {o : O} {os : List O} {S : Rg} (h : OR K G F B H v o S) (hF : Same F H) (e : o.itsK = some os) : ∃ a vs, v = .ref a ∧ SqL K H a vs ∧ ORs K G F B H vs os S := by
  cases h with
  | fr r =>
    cases r with
    | kl a r => cases e; exact ⟨_, _, rfl, SqL.same hF a, .of_fr r⟩
    | _ => cases e
  | bo r => cases r <;> cases e
  | _ => cases e
theorem ORs.get : ∀ {vs : List V} {os : List O} {S : Rg} {i : Nat} {o : O}, ORs K G F B H vs os S → os[i]? = some o → ∃ v, vs[i]? = some v ∧ OR K G F B H v o S
  | _, _, _, i, o, .nil, e => by simp at e
  | _, _, _, 0, o, .cons a b c d _, e => by simp at e; subst e; exact ⟨_, rfl, a.sub d⟩
  | _, _, _, i + 1, o, .cons a b c _ d, e => by
    obtain ⟨v, h1, h2⟩ := ORs.get (i := i) (o := o) b (by simpa using e)
    exact ⟨v, by simpa using h1, h2.sub d⟩
theorem ORs.append : ∀ {vs ws : List V} {os ps : List O} {S1 S2 : Rg}, ORs K G F B H vs os S1 → ORs K G F B H ws ps S2 → (∀ b, S1 b → S2 b → False) → ORs K G F B H (vs ++ ws) (os ++ ps) (fun b => S1 b ∨ S2 b)
  | _, _, _, _, S1, S2, .nil, h, _ => h.sub fun _ z => .inr z
  | _, _, _, _, S1, S2, .cons (S1 := T1) (S2 := T2) a b c d e, h, q =>
    .cons (S1 := T1) (S2 := fun b => T2 b ∨ S2 b) a (ORs.append b h fun x y z => q x (e x y) z) (fun x y z => z.elim (c x y) fun z => q x (d x y) z) (fun x y => .inl (d x y)) fun x y => y.elim (fun y => .inl (e x y)) .inr
theorem ORs.drop : ∀ {vs : List V} {os : List O} {S : Rg} (n : Nat), ORs K G F B H vs os S → ORs K G F B H (vs.drop n) (os.drop n) S
  | _, _, _, 0, h => h
  | _, _, _, _ + 1, .nil => .nil
  | _, _, _, n + 1, .cons a b c d e => (ORs.drop n b).sub e
theorem ORs.take : ∀ {vs : List V} {os : List O} {S : Rg} (n : Nat), ORs K G F B H vs os S → ORs K G F B H (vs.take n) (os.take n) S
  | _, _, _, 0, h => .nil
  | _, _, _, _ + 1, .nil => .nil
  | _, _, _, n + 1, .cons a b c d e => .cons a (ORs.take n b) c d e
/-- a new object, laid -/
theorem Pst.new {p : Addr} {u : HO} (hF : Same F H) (hp : H p = none) : Pst F H F (upd H p u) := by
  refine ⟨fun b o e => ?_, Same.refl _, fun b o e => ?_, fun b q => .inl q⟩
  · rw [upd_ne (ne_of_none e hp)]; exact e
  · rw [upd_ne (ne_of_none (hF _ _ e) hp)]; exact hF _ _ e
theorem new_same {p : Addr} {u : HO} (hp : H p = none) : Same H (upd H p u) := fun b o e => by
  rw [upd_ne (ne_of_none e hp)]; exact e
/-- a new list of what is at hand -/
theorem fin_list {p : Addr} {vs : List V} {os : List O} {S : Rg} {Q : VK} (hF : Same F H) (hp : H p = none) (r : ORs K G F B H vs os S) (w : Own F H S)
    (q : ∀ v F' H' S', Pst F H F' H' → OR K G F' B H' v (.list os) S' → Own F' H' S' → (∀ b, S' b → S b ∨ H b = none) → Q v H') : Q (.ref p) (upd H p (.lst vs)) := by
  have np : ¬ S p := fun z => (w p z).1 hp
  refine q (.ref p) F _ (fun b => b = p ∨ S b) (Pst.new hF hp) (.list upd_same (.inl rfl) (r.mono (Same.refl _) (Same.refl _) fun b u _ e => new_same hp _ _ e) np fun _ z => .inr z) ?_ ?_
  · rintro b (rfl | z)
    · refine ⟨by rw [upd_same]; simp, hF.free hp⟩
    · exact ⟨Same.ne (new_same hp) (w b z).1, (w b z).2⟩
  · rintro b (rfl | z)
    · exact .inr hp
    · exact .inl z
theorem fin_tup {p : Addr} {vs : List V} {os : List O} {S : Rg} {Q : VK} (hF : Same F H) (hp : H p = none) (r : ORs K G F B H vs os S) (w : Own F H S)
    (q : ∀ v F' H' S', Pst F H F' H' → OR K G F' B H' v (.tup os) S' → Own F' H' S' → (∀ b, S' b → S b ∨ H b = none) → Q v H') : Q (.ref p) (upd H p (.tup vs)) := by
  have np : ¬ S p := fun z => (w p z).1 hp
  refine q (.ref p) F _ (fun b => b = p ∨ S b) (Pst.new hF hp) (.tup upd_same (.inl rfl) (r.mono (Same.refl _) (Same.refl _) fun b u _ e => new_same hp _ _ e) np fun _ z => .inr z) ?_ ?_
  · rintro b (rfl | z)
    · refine ⟨by rw [upd_same]; simp, hF.free hp⟩
    · exact ⟨Same.ne (new_same hp) (w b z).1, (w b z).2⟩
  · rintro b (rfl | z)
    · exact .inr hp
    · exact .inl z
end

/-! ### int operators -/
def bitsOk (i j : Int) : Bool := decide (i.natAbs.log2 + j.natAbs.log2 < 134000000)
theorem bitsOk.ok {i j : Int} (h : bitsOk i j = true) : IntMulOk i j := by
  have b : ∀ x : Int, Builtin.Int.intBits x ≤ x.natAbs.log2 + 1 := fun x => by
    unfold Builtin.Int.intBits
    split <;> omega
  have h1 := b i
  have h2 := b j
  have h3 : i.natAbs.log2 + j.natAbs.log2 < 134000000 := of_decide_eq_true h
  have e : bitsLine = 134217728 := by decide
  unfold IntMulOk
  intro z
  rw [Bool.and_eq_true] at z
  have z2 := z.2
  unfold Builtin.Int.intTooBig at z2
  have z3 := of_decide_eq_true z2
  rw [e] at z3
  omega
def divOk (_ j : Int) : Bool := decide (0 < j) && decide (j.natAbs.log2 < 9000)
def modOk (_ j : Int) : Bool := decide (0 < j)
def powOk (i j : Int) : Bool := decide (0 ≤ j) && decide (j ≤ 1000000) && decide (i.natAbs < 2 ^ 64)
theorem op_mulX {X : Cx} : OpR X (binaryOp .Mult) (rI (fun i j => bitsOk i j = true) fun i j => .int (i * j)) := opI fun _ _ _ _ _ _ _ hc q => PyProof.Rows.mul_int q (bitsOk.ok hc)
theorem op_divX {X : Cx} : OpR X (binaryOp .FloorDiv) (rI (fun i j => divOk i j = true) fun i j => .int (i / j)) := opI fun i j _ _ _ _ _ hc q => by
  simp only [divOk, Bool.and_eq_true, decide_eq_true_eq] at hc
  have h1 : (0 : Int) < j := hc.1
  exact PyProof.Rows.floordiv_int (by omega) (by rw [Int.fdiv_eq_ediv_of_nonneg i (by omega)]; exact q) (.inl (PyProof.noPylong_of_log2 hc.2))
theorem op_modX {X : Cx} : OpR X (binaryOp .Mod) (rI (fun i j => modOk i j = true) fun i j => .int (i % j)) := fun pins s σ H x y v u Q I rx ry h => by
  obtain ⟨i, j, rfl, rfl, hc, q⟩ := h
  exact op_mod pins s σ H _ _ v u Q I rx ry ⟨i, j, rfl, rfl, of_decide_eq_true hc, q⟩
theorem op_powX {X : Cx} : OpR X (binaryOp .Pow) (rI (fun i j => powOk i j = true) fun i j => .int (i ^ j.toNat)) := fun pins s σ H x y v u Q I rx ry h => by
  obtain ⟨i, j, rfl, rfl, hc, q⟩ := h
  simp only [powOk, Bool.and_eq_true, decide_eq_true_eq] at hc
  exact op_pow pins s σ H _ _ v u Q I rx ry ⟨i, j, rfl, rfl, ⟨hc.1.1, hc.1.2, hc.2⟩, q⟩
section
variable {K : PySem.W.Frag} {G : Str → Option Value}
theorem rsem_sub : RSem K G (fun vs H Q => ∃ x y, vs = [x, y] ∧ (rI0 fun i j => .int (i - j)) x y H Q) (gII gAlw fun i j => .int (i - j)) := rsem_II (v := fun i j => .int (i - j)) (fun _ _ _ => .int _) fun i j H Q _ q => ⟨i, j, rfl, rfl, q⟩
theorem rsem_rI {c : Int → Int → Bool} {g : Int → Int → Int} : RSem K G (fun vs H Q => ∃ x y, vs = [x, y] ∧ (rI (fun i j => c i j = true) fun i j => .int (g i j)) x y H Q) (gII c fun i j => .int (g i j)) := rsem_II (v := fun i j => .int (g i j)) (fun _ _ _ => .int _) fun i j H Q h q => ⟨i, j, rfl, rfl, h, q⟩
theorem rsem_rB {g : Int → Int → Bool} : RSem K G (fun vs H Q => ∃ x y, vs = [x, y] ∧ (rI0 fun i j => .bl (g i j)) x y H Q) (gII gAlw fun i j => .bool (g i j)) := rsem_II (v := fun i j => .bl (g i j)) (fun _ _ _ => .bl _) fun i j H Q _ q => ⟨i, j, rfl, rfl, q⟩
end

/-! ### + -/
def gAdd : List O → Option O
  | [a, b] => match a.rd, b.rd with
    | .int i, .int j => some (.fr (.int (i + j)))
    | .str i, .str j => if i.length + j.length ≤ LINE then some (.fr (.str (i ++ j))) else none
    | .list _, .list _ => (a.itsL).bind fun xs => (b.itsL).bind fun ys => if xs.length + ys.length ≤ LINE then some (.list (xs ++ ys)) else none
    | _, _ => none
  | _ => none
@[simp] theorem gAdd_int (i j : Int) : gAdd [.fr (.int i), .fr (.int j)] = some (.fr (.int (i + j))) := by simp [gAdd]
def rCatL : R2 := fun x y H Q => ∃ l b xs zs, x = .ref l ∧ y = .ref b ∧ Rd H l (.lst xs) ∧ Rd H b (.lst zs) ∧ xs.length + zs.length ≤ sizeLine ∧ ∀ p, H p = none → Q (.ref p) (upd H p (.lst (xs ++ zs)))
theorem op_catL {X : Cx} : OpR X (binaryOp .Add) rCatL := by
  intro pins s σ H x y v u Q I rx ry h
  obtain ⟨l, b, xs, zs, rfl, rfl, hH, hB, hz, q⟩ := h
  cases rx
  cases ry
  obtain ⟨z, its, n, r, e⟩ : xs.length ≤ sizeLine ∧ ∃ (its : List Value) (n : Nat), Vals xs its ∧ s.heap.get? l = some { cls := .type "list", data := .seq its.toArray n } := hH.ok I.hok
  obtain ⟨z2, its2, n2, r2, e2⟩ : zs.length ≤ sizeLine ∧ ∃ (its : List Value) (n : Nat), Vals zs its ∧ s.heap.get? b = some { cls := .type "list", data := .seq its.toArray n } := hB.ok I.hok
  have hl := r.length
  have hl2 := r2.length
  refine PySem.P.add_list e e2 ?_ (by rw [List.size_toArray, List.size_toArray]; omega)
  have ea : its.toArray ++ its2.toArray = (its ++ its2).toArray := by simp
  rw [ea]
  exact ⟨.ref _, _, I.lnew (t' := s.toks) (r.append r2) (by rw [List.length_append]; omega), rfl, q _ I.fresh⟩
def rAdd' : R2 := fun x y H Q => ((rI0 fun i j => .int (i + j)) x y H Q ∨ (∃ i j, x = .str i ∧ y = .str j ∧ i.length + j.length ≤ sizeLine ∧ Q (.str (i ++ j)) H)) ∨ rCatL x y H Q
theorem op_addX {X : Cx} : OpR X (binaryOp .Add) rAdd' := (op_add.or op_add_str).or op_catL
theorem rsem_add {K G} : RSem K G (fun vs H Q => ∃ x y, vs = [x, y] ∧ rAdd' x y H Q) gAdd := by
  intro F B H vs os S o Q hF hB rs w nb e q
  unfold gAdd at e
  split at e
  · rename_i a b
    obtain ⟨va, vb, S1, S2, rfl, r1, r2, dj, s1, s2⟩ := rs.two
    have q1 := r1.all hF hB
    have q2 := r2.all hF hB
    split at e
    · rename_i i j h1 h2
      rw [h1] at q1
      rw [h2] at q2
      cases q1.int_inv
      cases q2.int_inv
      cases e
      exact ⟨_, _, rfl, .inl (.inl ⟨i, j, rfl, rfl, fin_leaf (B := B) (S := S) hF (.int _) q⟩)⟩
    · rename_i i j h1 h2
      rw [h1] at q1
      rw [h2] at q2
      cases q1.str_inv
      cases q2.str_inv
      split at e
      · rename_i hz
        cases e
        exact ⟨_, _, rfl, .inl (.inr ⟨i, j, rfl, rfl, by rw [line_eq]; exact hz, fin_leaf (B := B) (S := S) hF (.str _) q⟩)⟩
      · cases e
    · obtain ⟨os1, e1, e⟩ := Option.bind_eq_some_iff.mp e
      obtain ⟨os2, e2, e⟩ := Option.bind_eq_some_iff.mp e
      split at e
      · rename_i hz
        cases e
        obtain ⟨x, us, rfl, hs, t1⟩ := r1.itemsL hF hB e1
        obtain ⟨y, ws, rfl, hs2, t2⟩ := r2.itemsL hF hB e2
        refine ⟨_, _, rfl, .inr ⟨x, y, us, ws, rfl, rfl, hs, hs2, by rw [line_eq, t1.length, t2.length]; exact hz, fun p hp => ?_⟩⟩
        refine fin_list (S := fun b => S1 b ∨ S2 b) hF hp (t1.append t2 dj) (fun b z => w b (z.elim (s1 b) (s2 b))) fun v F' H' S' p1 p2 p3 p4 => q v F' H' S' p1 p2 p3 fun b z => (p4 b z).imp (fun z => z.elim (s1 b) (s2 b)) id
      · cases e
    · cases e
  · cases e
end Tw
/-! Core4: comparisons, in, len, items, slices, displays, built-ins. -/
namespace Tw
open PySem PySem.Spec L2

/-! ### ==, != -/
def gEq : List O → Option O
  | [a, b] => match a.rd, b.rd with
    | .str x, .str y => some (.fr (.bool (decide (x = y))))
    | x, y => if x.sh 30 && y.sh 30 then some (.fr (.bool (D.eqv x y))) else none
  | _ => none
def gNe : List O → Option O
  | [a, b] => match a.rd, b.rd with
    | .str x, .str y => some (.fr (.bool (!decide (x = y))))
    | x, y => if x.sh 30 && y.sh 30 then some (.fr (.bool (!D.eqv x y))) else none
  | _ => none
@[simp] theorem gEq_int (i j : Int) : gEq [.fr (.int i), .fr (.int j)] = some (.fr (.bool (decide (i = j)))) := by simp [gEq]
@[simp] theorem gNe_int (i j : Int) : gNe [.fr (.int i), .fr (.int j)] = some (.fr (.bool (!decide (i = j)))) := by simp [gNe]
@[simp] theorem gEq_bool (i j : Bool) : gEq [.fr (.bool i), .fr (.bool j)] = some (.fr (.bool (decide (i = j)))) := by simp [gEq]
@[simp] theorem gNe_bool (i j : Bool) : gNe [.fr (.bool i), .fr (.bool j)] = some (.fr (.bool (!decide (i = j)))) := by simp [gNe]
@[simp] theorem gEq_str (i j : Str) : gEq [.fr (.str i), .fr (.str j)] = some (.fr (.bool (decide (i = j)))) := by simp [gEq]
@[simp] theorem gNe_str (i j : Str) : gNe [.fr (.str i), .fr (.str j)] = some (.fr (.bool (!decide (i = j)))) := by simp [gNe]
def rEqX (K : PySem.W.Frag) : R2 := fun x y H Q => rEq x y H Q ∨ rEqD K x y H Q
def rNeX (K : PySem.W.Frag) : R2 := fun x y H Q => rNe x y H Q ∨ rNeD K x y H Q
theorem op_eqX {X : Cx} (hu : X.A.units + 64 < cLine) : OpR X (compareOp .Eq) (rEqX X.K) := op_eq.or (op_eqD hu)
theorem op_neX {X : Cx} (hu : X.A.units + 64 < cLine) : OpR X (compareOp .NotEq) (rNeX X.K) := op_ne.or (op_neD hu)
theorem dec_strV (x y : Str) : decide (V.str x = V.str y) = decide (x = y) := by
  by_cases h : x = y
  · subst h; simp
  · rw [decide_eq_false h, decide_eq_false (fun z => h (by injection z))]
section
variable {K : PySem.W.Frag} {G : Str → Option Value}
theorem rsem_eq : RSem K G (fun vs H Q => ∃ x y, vs = [x, y] ∧ rEqX K x y H Q) gEq := by
  intro F B H vs os S o Q hF hB rs w nb e q
  unfold gEq at e
  split at e
  · rename_i a b
    obtain ⟨va, vb, S1, S2, rfl, r1, r2, dj, s1, s2⟩ := rs.two
    have q1 := r1.all hF hB
    have q2 := r2.all hF hB
    split at e
    · rename_i i j h1 h2
      rw [h1] at q1
      rw [h2] at q2
      cases q1.str_inv
      cases q2.str_inv
      cases e
      exact ⟨_, _, rfl, .inl ⟨rfl, by rw [dec_strV]; exact fin_leaf (B := B) (S := S) hF (.bl _) q⟩⟩
    · split at e
      · rename_i hh
        rw [Bool.and_eq_true] at hh
        cases e
        exact ⟨_, _, rfl, .inr ⟨_, _, R.dp _ hh.1 q1, R.dp _ hh.2 q2, D.shaped hh.1 (by decide), D.shaped hh.2 (by decide), fin_leaf (B := B) (S := S) hF (.bl _) q⟩⟩
      · cases e
  · cases e
theorem rsem_ne : RSem K G (fun vs H Q => ∃ x y, vs = [x, y] ∧ rNeX K x y H Q) gNe := by
  intro F B H vs os S o Q hF hB rs w nb e q
  unfold gNe at e
  split at e
  · rename_i a b
    obtain ⟨va, vb, S1, S2, rfl, r1, r2, dj, s1, s2⟩ := rs.two
    have q1 := r1.all hF hB
    have q2 := r2.all hF hB
    split at e
    · rename_i i j h1 h2
      rw [h1] at q1
      rw [h2] at q2
      cases q1.str_inv
      cases q2.str_inv
      cases e
      exact ⟨_, _, rfl, .inl ⟨rfl, by rw [dec_strV]; exact fin_leaf (B := B) (S := S) hF (.bl _) q⟩⟩
    · split at e
      · rename_i hh
        rw [Bool.and_eq_true] at hh
        cases e
        exact ⟨_, _, rfl, .inr ⟨_, _, R.dp _ hh.1 q1, R.dp _ hh.2 q2, D.shaped hh.1 (by decide), D.shaped hh.2 (by decide), fin_leaf (B := B) (S := S) hF (.bl _) q⟩⟩
      · cases e
  · cases e
end

/-! ### is None -/
def D.isN : D → Bool
  | .none => true
  | _ => false
def gIsN (neg : Bool) : List O → Option O
  | [a, _] => some (.fr (.bool (xor neg a.rd.isN)))
  | _ => none
section
variable {K : PySem.W.Frag} {G : Str → Option Value}
theorem R.isNone {H : Hp} {v : V} {d : D} (r : R K G H v d) : decide (v = .non) = d.isN := by
  cases r <;> first | rfl | (apply decide_eq_false; intro z; cases z)
theorem esem_isN {ta : TE} {fa : En → Option O} (ha : ESem K G ta fa) : ESem K G (tIsN ta) (x1 (fun os => gIsN false (os ++ [.fr .none])) fa) := by
  intro F B σ ρ H o Q hσ hF hB e q
  unfold x1 at e
  obtain ⟨oa, ea, e⟩ := Option.bind_eq_some_iff.mp e
  refine ha F B σ ρ H oa _ hσ hF hB ea fun va F1 H1 S p1 r w n => ?_
  have q1 := r.all p1.fs (p1.b hB)
  simp only [List.cons_append, List.nil_append, gIsN, Bool.false_xor, Option.some.injEq] at e
  subst e
  rw [q1.isNone]
  exact q _ F1 H1 (fun _ => False) p1 (.fr (.bl _)) (fun _ z => z.elim) fun _ z => z.elim
theorem esem_notN {ta : TE} {fa : En → Option O} (ha : ESem K G ta fa) : ESem K G (tNotN ta) (x1 (fun os => gIsN true (os ++ [.fr .none])) fa) := by
  intro F B σ ρ H o Q hσ hF hB e q
  unfold x1 at e
  obtain ⟨oa, ea, e⟩ := Option.bind_eq_some_iff.mp e
  refine ha F B σ ρ H oa _ hσ hF hB ea fun va F1 H1 S p1 r w n => ?_
  have q1 := r.all p1.fs (p1.b hB)
  simp only [List.cons_append, List.nil_append, gIsN, Bool.true_xor, Option.some.injEq] at e
  subst e
  rw [q1.isNone]
  exact q _ F1 H1 (fun _ => False) p1 (.fr (.bl _)) (fun _ z => z.elim) fun _ z => z.elim
end

/-! ### dict lookups -/
/-- the value at the key -/
def D.look : List (D × D) → D → Option D
  | [], _ => Option.none
  | (k, d) :: r, x => if D.eqv k x then some d else D.look r x
def D.isKey : D → Bool
  | .int _ => true
  | .str _ => true
  | _ => false
theorem isKey_kD {d : D} (h : d.isKey = true) : ∃ k, d = kD k := by
  cases d <;> first | (simp [D.isKey] at h; done) | exact ⟨.inl _, rfl⟩ | exact ⟨.inr _, rfl⟩
theorem eqv_kD (a b : Key) : D.eqv (kD a) (kD b) = decide (a = b) := by
  cases a <;> cases b <;> simp [kD]
section
variable {K : PySem.W.Frag} {G : Str → Option Value} {H : Hp}
theorem R.kV {v : V} {k : Key} (r : R K G H v (kD k)) : v = kV k := by
  cases k with
  | inl i => exact r.int_inv
  | inr i => exact r.str_inv
theorem Rk.look : ∀ {ks : List (Key × V)} {ds : List (D × D)} (k : Key), Rk K G H ks ds → (∀ d, D.look ds (kD k) = some d → ∃ v, valV ks k = some v ∧ R K G H v d) ∧ (D.look ds (kD k) = none → valV ks k = none)
  | _, _, k, .nil => ⟨fun d h => by simp [D.look] at h, fun _ => rfl⟩
  | (k', v) :: ks, _, k, .cons r t => by
    have ih := Rk.look k t
    have e : D.eqv (kD k') (kD k) = decide (k' = k) := eqv_kD _ _
    by_cases h : k' = k
    · rw [D.look, e, decide_eq_true h]
      refine ⟨fun d z => ?_, fun z => by simp at z⟩
      simp only [if_true, Option.some.injEq] at z
      subst z
      exact ⟨v, valV_pos h, r⟩
    · rw [D.look, e, decide_eq_false h]
      simp only [Bool.false_eq_true, if_false]
      refine ⟨fun d z => ?_, fun z => ?_⟩
      · obtain ⟨w, h1, h2⟩ := ih.1 d z
        exact ⟨w, by rw [valV_neg h]; exact h1, h2⟩
      · rw [valV_neg h]; exact ih.2 z
theorem Rk.there {ks : List (Key × V)} {ds : List (D × D)} (k : Key) (r : Rk K G H ks ds) : (valV ks k).isSome = (D.look ds (kD k)).isSome := by
  cases e : D.look ds (kD k) with
  | none => rw [(r.look k).2 e]; rfl
  | some d =>
    obtain ⟨v, h, _⟩ := (r.look k).1 d e
    rw [h]; rfl
end

/-! ### in, not in -/
def D.flats (xs : List D) : Bool := xs.all D.leaf
def gIn (neg : Bool) : List O → Option O
  | [a, b] => match b.rd with
    | .list ds => if a.rd.sh 30 && D.shs ds 30 then some (.fr (.bool (xor neg (ds.any fun z => D.eqv z a.rd)))) else none
    | .tup ds => if a.rd.leaf && D.flats ds then some (.fr (.bool (xor neg (ds.any fun z => D.eqv z a.rd)))) else none
    | .dict kvs => if a.rd.isKey then some (.fr (.bool (xor neg (D.look kvs a.rd).isSome))) else none
    | _ => none
  | _ => none
theorem leaf_flatV {K : PySem.W.Frag} {G : Str → Option Value} {H : Hp} {v : V} {d : D} (r : R K G H v d) (h : d.leaf = true) : flatV v = true := by
  cases r <;> first | rfl | (simp [D.leaf] at h)
theorem leaf_eqV {K : PySem.W.Frag} {G : Str → Option Value} {H : Hp} {v v' : V} {d d' : D} (r : R K G H v d) (r' : R K G H v' d') (h : d.leaf = true) (h' : d'.leaf = true) : eqV v v' = D.eqv d d' := by
  cases r <;> cases r' <;> first | (simp [D.leaf] at h; done) | (simp [D.leaf] at h'; done) | (simp [eqV, D.eqv, D.py, PyData.eqv])
theorem flats_V {K : PySem.W.Frag} {G : Str → Option Value} {H : Hp} {v : V} {d : D} (r : R K G H v d) (h : d.leaf = true) : ∀ {vs : List V} {ds : List D}, Rs K G H vs ds → D.flats ds = true → vs.all flatV = true ∧ inV v vs = ds.any fun z => D.eqv z d
  | _, _, .nil, _ => ⟨rfl, rfl⟩
  | _, _, .cons a t, f => by
    simp only [D.flats, List.all_cons, Bool.and_eq_true] at f
    have ih := flats_V r h t f.2
    refine ⟨by rw [List.all_cons, leaf_flatV a f.1, ih.1]; rfl, ?_⟩
    have e := ih.2
    unfold inV at e ⊢
    rw [List.any_cons, List.any_cons, e, leaf_eqV a r f.1 h]
theorem pys_any (d : D) : ∀ ds : List D, ((D.pys ds).any fun z => PyData.eqv z d.py) = ds.any fun z => D.eqv z d
  | [] => by simp [D.pys]
  | x :: xs => by simp [D.pys, pys_any d xs, D.eqv]
def rInX (K : PySem.W.Frag) : R2 := fun x y H Q => (rInD K x y H Q ∨ rIn K false x y H Q) ∨ ∃ a o, y = .ref a ∧ DGet H a x o ∧ Q (.bl o.isSome) H
def rNiX (K : PySem.W.Frag) : R2 := fun x y H Q => (rNotInD K x y H Q ∨ rIn K true x y H Q) ∨ ∃ a o, y = .ref a ∧ DGet H a x o ∧ Q (.bl (!o.isSome)) H
theorem op_inX {X : Cx} (hu : X.A.units + 65 < cLine) : OpR X (compareOp .In) (rInX X.K) := ((op_inD hu).or op_in_seq).or fun pins s σ H x y v u Q I rx ry ⟨a, o, ey, g, q⟩ => by
  subst ey
  cases ry
  exact d_in (by omega) I g rx fun s' I' => ⟨.bl _, H, I', rfl, q⟩
theorem op_niX {X : Cx} (hu : X.A.units + 65 < cLine) : OpR X (compareOp .NotIn) (rNiX X.K) := ((op_notInD hu).or op_notIn_seq).or fun pins s σ H x y v u Q I rx ry ⟨a, o, ey, g, q⟩ => by
  subst ey
  cases ry
  exact d_notIn (by omega) I g rx fun s' I' => ⟨.bl _, H, I', rfl, q⟩
section
variable {K : PySem.W.Frag} {G : Str → Option Value}
theorem rsem_in : RSem K G (fun vs H Q => ∃ x y, vs = [x, y] ∧ rInX K x y H Q) (gIn false) := by
  intro F B H vs os S o Q hF hB rs w nb e q
  unfold gIn at e
  split at e
  · rename_i a b
    obtain ⟨va, vb, S1, S2, rfl, r1, r2, dj, s1, s2⟩ := rs.two
    have q1 := r1.all hF hB
    have q2 := r2.all hF hB
    split at e
    · rename_i ds h2
      rw [h2] at q2
      split at e
      · rename_i hh
        rw [Bool.and_eq_true] at hh
        cases e
        refine ⟨_, _, rfl, .inl (.inl ⟨a.rd.py, D.pys ds, R.dp _ hh.1 q1, ?_, D.shaped hh.1 (by decide), ?_, ?_⟩)⟩
        · have := R.dp (d := .list ds) 31 (by simpa [D.sh] using hh.2) q2
          simpa [D.py] using this
        · have := D.shaped (d := .list ds) (n := 31) (by simpa [D.sh] using hh.2) (by decide)
          simpa [D.py] using this
        · rw [pys_any]
          simp only [Bool.false_xor] at q
          exact fin_leaf (B := B) (S := S) hF (.bl _) q
      · cases e
    · rename_i ds h2
      rw [h2] at q2
      split at e
      · rename_i hh
        rw [Bool.and_eq_true] at hh
        cases e
        obtain ⟨p, us, rfl, hs, t⟩ := q2.tup_inv
        have ff := flats_V q1 hh.1 t hh.2
        refine ⟨_, _, rfl, .inl (.inr ⟨p, us, rfl, .inr hs, leaf_flatV q1 hh.1, ff.1, ?_⟩)⟩
        simp only [Bool.false_xor] at q
        simp only [Bool.false_eq_true, if_false]
        rw [ff.2]
        exact fin_leaf (B := B) (S := S) hF (.bl _) q
      · cases e
    · rename_i kvs h2
      rw [h2] at q2
      split at e
      · rename_i hk
        cases e
        obtain ⟨k, hk⟩ := isKey_kD hk
        rw [hk] at q1 q
        cases q1.kV
        obtain ⟨p, ks, rfl, hd, t⟩ := q2.dict_inv
        refine ⟨_, _, rfl, .inr ⟨p, valV ks k, rfl, .inl ⟨ks, k, hd, rfl, rfl⟩, ?_⟩⟩
        rw [t.there]
        simp only [Bool.false_xor] at q
        exact fin_leaf (B := B) (S := S) hF (.bl _) q
      · cases e
    · cases e
  · cases e
theorem rsem_ni : RSem K G (fun vs H Q => ∃ x y, vs = [x, y] ∧ rNiX K x y H Q) (gIn true) := by
  intro F B H vs os S o Q hF hB rs w nb e q
  unfold gIn at e
  split at e
  · rename_i a b
    obtain ⟨va, vb, S1, S2, rfl, r1, r2, dj, s1, s2⟩ := rs.two
    have q1 := r1.all hF hB
    have q2 := r2.all hF hB
    split at e
    · rename_i ds h2
      rw [h2] at q2
      split at e
      · rename_i hh
        rw [Bool.and_eq_true] at hh
        cases e
        refine ⟨_, _, rfl, .inl (.inl ⟨a.rd.py, D.pys ds, R.dp _ hh.1 q1, ?_, D.shaped hh.1 (by decide), ?_, ?_⟩)⟩
        · have := R.dp (d := .list ds) 31 (by simpa [D.sh] using hh.2) q2
          simpa [D.py] using this
        · have := D.shaped (d := .list ds) (n := 31) (by simpa [D.sh] using hh.2) (by decide)
          simpa [D.py] using this
        · rw [pys_any]
          simp only [Bool.true_xor] at q
          exact fin_leaf (B := B) (S := S) hF (.bl _) q
      · cases e
    · rename_i ds h2
      rw [h2] at q2
      split at e
      · rename_i hh
        rw [Bool.and_eq_true] at hh
        cases e
        obtain ⟨p, us, rfl, hs, t⟩ := q2.tup_inv
        have ff := flats_V q1 hh.1 t hh.2
        refine ⟨_, _, rfl, .inl (.inr ⟨p, us, rfl, .inr hs, leaf_flatV q1 hh.1, ff.1, ?_⟩)⟩
        simp only [Bool.true_xor] at q
        simp only [if_true]
        rw [ff.2]
        exact fin_leaf (B := B) (S := S) hF (.bl _) q
      · cases e
    · rename_i kvs h2
      rw [h2] at q2
      split at e
      · rename_i hk
        cases e
        obtain ⟨k, hk⟩ := isKey_kD hk
        rw [hk] at q1 q
        cases q1.kV
        obtain ⟨p, ks, rfl, hd, t⟩ := q2.dict_inv
        refine ⟨_, _, rfl, .inr ⟨p, valV ks k, rfl, .inl ⟨ks, k, hd, rfl, rfl⟩, ?_⟩⟩
        rw [t.there]
        simp only [Bool.true_xor] at q
        exact fin_leaf (B := B) (S := S) hF (.bl _) q
      · cases e
    · cases e
  · cases e
end

/-! ### len -/
def gLen : List O → Option O
  | [a] => match a.rd with
    | .list ds => some (.fr (.int ds.length))
    | .tup ds => some (.fr (.int ds.length))
    | .str x => if x.length ≤ LINE then some (.fr (.int x.length)) else none
    | .dict ds => some (.fr (.int ds.length))
    | .kl ds => some (.fr (.int ds.length))
    | _ => none
  | _ => none
theorem Rk.length {K : PySem.W.Frag} {G : Str → Option Value} {H : Hp} : ∀ {ks : List (Key × V)} {ds : List (D × D)}, Rk K G H ks ds → ks.length = ds.length
  | _, _, .nil => rfl
  | _, _, .cons _ t => by simp [Rk.length t]
def rLenX (K : PySem.W.Frag) : List V → Hp → VK → Prop := fun xs H Q => (∃ x n, xs = [x] ∧ LenV K x H n ∧ Q (.int n) H) ∨ ∃ a kvs, xs = [.ref a] ∧ Rd H a (.dK kvs) ∧ Q (.int kvs.length) H
theorem call_lenX {X : Cx} : CallR X (.builtin "len") (rLenX X.K) := call_len.or fun pins s σ H xs us Q I r ⟨a, kvs, e, hd, q⟩ => by
  subst e
  obtain ⟨u, rfl, ru⟩ := vals1 r
  cases ru
  exact d_len I hd fun t s' I' => ⟨.int _, H, I', ⟨_, rfl⟩, q⟩
section
variable {K : PySem.W.Frag} {G : Str → Option Value}
theorem rsem_len : RSem K G (rLenX K) gLen := by
  intro F B H vs os S o Q hF hB rs w nb e q
  unfold gLen at e
  split at e
  · rename_i a
    obtain ⟨va, rfl, r1⟩ := rs.one
    have q1 := r1.all hF hB
    split at e
    · rename_i ds h
      rw [h] at q1
      cases e
      obtain ⟨p, us, rfl, hs, t⟩ := q1.list_inv
      exact .inl ⟨_, us.length, rfl, .inl ⟨us, .inl hs, rfl⟩, by rw [t.length]; exact fin_leaf (B := B) (S := S) hF (.int _) q⟩
    · rename_i ds h
      rw [h] at q1
      cases e
      obtain ⟨p, us, rfl, hs, t⟩ := q1.tup_inv
      exact .inl ⟨_, us.length, rfl, .inr ⟨us, hs, rfl⟩, by rw [t.length]; exact fin_leaf (B := B) (S := S) hF (.int _) q⟩
    · rename_i x h
      rw [h] at q1
      cases q1.str_inv
      split at e
      · rename_i hz
        cases e
        exact .inl ⟨_, x.length, rfl, ⟨by rw [line_eq]; exact hz, rfl⟩, fin_leaf (B := B) (S := S) hF (.int _) q⟩
      · cases e
    · rename_i ds h
      rw [h] at q1
      cases e
      obtain ⟨p, us, rfl, hs, t⟩ := q1.dict_inv
      exact .inr ⟨_, us, rfl, hs, by rw [t.length]; exact fin_leaf (B := B) (S := S) hF (.int _) q⟩
    · rename_i ds h
      rw [h] at q1
      cases e
      cases q1 with
      | kl hs t => exact .inl ⟨_, _, rfl, .inl ⟨_, hs, rfl⟩, by rw [t.length]; exact fin_leaf (B := B) (S := S) hF (.int _) q⟩
    · cases e
  · cases e
end

/-! ### o[i] -/
def O.itm (a : O) (d : D) : O := match a with
  | .bo _ => mkbo d
  | _ => .fr d
@[simp] theorem itm_fr (x d) : O.itm (.fr x) d = .fr d := rfl
@[simp] theorem itm_bo (x d) : O.itm (.bo x) d = mkbo d := rfl
@[simp] theorem itm_dict (x d) : O.itm (.dict x) d = .fr d := rfl
def gIx : List O → Option O
  | [a, b] => match a.rd, b.rd with
    | .list _, .int i => (a.itsL).bind fun os => atI os i
    | .tup _, .int i => (a.itsT).bind fun os => atI os i
    | .kl _, .int i => (a.itsK).bind fun os => atI os i
    | .str x, .int i => if x.length ≤ LINE then (atI x.cps.toList i).map fun c => .fr (.str ⟨#[c]⟩) else none
    | .dict kvs, k => if k.isKey then (D.look kvs k).map a.itm else none
    | _, _ => none
  | _ => none
def rIxX (K : PySem.W.Frag) : R2 := fun x y H Q => rIx K x y H Q ∨ ∃ a v, x = .ref a ∧ DGet H a y (some v) ∧ Q v H
theorem tail_slot {prog : Program} {w : World} {A : Around} {E : Value → Shared → Prop} {s : Shared} {value slice : Expr} {T id : String} {o i : Value} {Q : Value → Shared → Prop}
    (hl : typeLookup (.type T) "__getitem__" = pure (some (.builtin id))) (hs : subscripted slice false o i = operate [o, i] (getItem o i)) (hT : s.TypeIs o T) (h : wpAny (model prog w) A (getItem o i) Q E s) :
    wpAny (model prog w) A (PyProof.Rows.subscriptTail value slice o i) Q E s := by
  unfold PyProof.Rows.subscriptTail
  refine wpAny_bind ?_
  rw [getitemInPython_of_ne hT.not_modules]
  refine wpAny_bind (wpAny_specialOf hT hl ?_)
  have fin : wpAny (model prog w) A (subscripted slice false o i) (fun r s₃ => wpAny (model prog w) A (letTemporaryGo value o r >>= fun _ => pure r) Q E s₃) E s := by
    rw [hs]
    exact wpAny_operating (wpAny_mono h (fun r s₃ h₃ => wpAny_bind (wpAny_letTemporaryGo (wpAny_pure h₃))) fun _ _ x => x)
  first
    | exact wpAny_pure (wpAny_bind fin)
    | exact wpAny_bind (wpAny_pure (wpAny_bind fin))
    | exact wpAny_bind fin
theorem ix_X {X : Cx} (hu : X.A.units + 1 < cLine) : IxR X (rIxX X.K) := ix_seq.or fun value slice pins s σ H x y v u Q I rx ry ⟨a, z, ex, g, q⟩ hs => by
  subst ex
  cases rx
  exact tail_slot PySem.F.slot_dict_getitem.lookup hs (dict_typeIs I g) (d_getItem hu I g ry fun w' s3 I3 rw' => ⟨z, H, I3, rw', q⟩)
theorem atI_of {α β : Type} {xs : List α} {ys : List β} (hl : xs.length = ys.length) {i : Int} {y : β} (h : atI ys i = some y) : ∃ j : Nat, ys[j]? = some y ∧ ∀ x, xs[j]? = some x → atI xs i = some x := by
  unfold atI at h
  obtain ⟨j, h1, h2⟩ := Option.bind_eq_some_iff.mp h
  refine ⟨j, h2, fun x hx => ?_⟩
  unfold atI
  rw [hl, h1]
  exact hx
section
variable {K : PySem.W.Frag} {G : Str → Option Value} {F B H : Hp}
theorem OR.dictLook {a : O} {v : V} {S : Rg} {kvs : List (D × D)} (r : OR K G F B H v a S) (hF : Same F H) (hB : Same B H) (h : a.rd = .dict kvs) : ∃ p ks, v = .ref p ∧ Rd H p (.dK ks) ∧ (∀ k, (∀ d, D.look kvs (kD k) = some d → ∃ w, valV ks k = some w ∧ OR K G F B H w (a.itm d) S) ∧ (D.look kvs (kD k) = none → valV ks k = none)) := by
  cases r with
  | fr r =>
    rw [rd_fr] at h
    subst h
    obtain ⟨p, ks, rfl, hd, t⟩ := r.dict_inv
    refine ⟨p, ks, rfl, Rd.same hF hd, fun k => ⟨fun d z => ?_, (t.look k).2⟩⟩
    obtain ⟨w, h1, h2⟩ := (t.look k).1 d z
    exact ⟨w, h1, .fr h2⟩
  | bo r =>
    rw [rd_bo] at h
    subst h
    obtain ⟨p, ks, rfl, hd, t⟩ := r.dict_inv
    refine ⟨p, ks, rfl, Rd.same hB hd, fun k => ⟨fun d z => ?_, (t.look k).2⟩⟩
    obtain ⟨w, h1, h2⟩ := (t.look k).1 d z
    exact ⟨w, h1, .mkbo h2⟩
  | dict h1 h2 t =>
    rw [rd_dict] at h
    injection h with h
    subst h
    refine ⟨_, _, rfl, .inl h1, fun k => ⟨fun d z => ?_, (t.look k).2⟩⟩
    obtain ⟨w, h1, h2⟩ := (t.look k).1 d z
    exact ⟨w, h1, .fr h2⟩
  | list h1 h2 h3 h4 h5 => rw [rd_list] at h; cases h
  | tup h1 h2 h3 h4 h5 => rw [rd_tup] at h; cases h
  | obj h1 h2 h3 h4 h5 => rw [rd_obj] at h; cases h
end
section
variable {K : PySem.W.Frag} {G : Str → Option Value}
theorem rsem_ix : RSem K G (fun vs H Q => ∃ x y, vs = [x, y] ∧ rIxX K x y H Q) gIx := by
  intro F B H vs os S o Q hF hB rs w nb e q
  unfold gIx at e
  split at e
  · rename_i a b
    obtain ⟨va, vb, S1, S2, rfl, r1, r2, dj, s1, s2⟩ := rs.two
    have q1 := r1.all hF hB
    have q2 := r2.all hF hB
    have fin : ∀ {v : V} {o : O}, OR K G F B H v o S1 → (∀ v F' H' S', Pst F H F' H' → OR K G F' B H' v o S' → Own F' H' S' → (∀ b, S' b → S b ∨ H b = none) → Q v H') → Q v H := fun {v o} r q =>
      q v F H S1 (Pst.refl hF) r (fun b z => w b (s1 b z)) fun b z => .inl (s1 b z)
    split at e
    · rename_i ds i h1 h2
      rw [h2] at q2
      cases q2.int_inv
      obtain ⟨os, e1, e⟩ := Option.bind_eq_some_iff.mp e
      obtain ⟨p, us, rfl, hs, t⟩ := r1.itemsL hF hB e1
      obtain ⟨j, h3, h4⟩ := atI_of t.length e
      obtain ⟨v, h5, h6⟩ := t.get h3
      exact ⟨_, _, rfl, .inl (.inl ⟨p, us, i, v, rfl, rfl, .inl hs, h4 v h5, fin h6 q⟩)⟩
    · rename_i ds i h1 h2
      rw [h2] at q2
      cases q2.int_inv
      obtain ⟨os, e1, e⟩ := Option.bind_eq_some_iff.mp e
      obtain ⟨p, us, rfl, hs, t⟩ := r1.itemsT hF hB e1
      obtain ⟨j, h3, h4⟩ := atI_of t.length e
      obtain ⟨v, h5, h6⟩ := t.get h3
      exact ⟨_, _, rfl, .inl (.inr (.inl ⟨p, us, i, v, rfl, rfl, hs, h4 v h5, fin h6 q⟩))⟩
    · rename_i ds i h1 h2
      rw [h2] at q2
      cases q2.int_inv
      obtain ⟨os, e1, e⟩ := Option.bind_eq_some_iff.mp e
      obtain ⟨p, us, rfl, hs, t⟩ := r1.itemsK hF e1
      obtain ⟨j, h3, h4⟩ := atI_of t.length e
      obtain ⟨v, h5, h6⟩ := t.get h3
      exact ⟨_, _, rfl, .inl (.inl ⟨p, us, i, v, rfl, rfl, hs, h4 v h5, fin h6 q⟩)⟩
    · rename_i x i h1 h2
      rw [h1] at q1
      rw [h2] at q2
      cases q1.str_inv
      cases q2.int_inv
      split at e
      · rename_i hz
        obtain ⟨c, hc, e⟩ := Option.map_eq_some_iff.mp e
        cases e
        exact ⟨_, _, rfl, .inl (.inr (.inr ⟨x, i, c, rfl, rfl, by rw [line_eq]; exact hz, hc, fin_leaf (B := B) (S := S) hF (.str _) q⟩))⟩
      · cases e
    · rename_i kvs h1
      split at e
      · rename_i hk
        obtain ⟨d, h2, e⟩ := Option.map_eq_some_iff.mp e
        obtain ⟨k, hk⟩ := isKey_kD hk
        rw [hk] at q2 h2
        cases q2.kV
        obtain ⟨p, ks, rfl, hd, lk⟩ := r1.dictLook hF hB h1
        obtain ⟨v, h5, h6⟩ := (lk k).1 d h2
        cases e
        exact ⟨_, _, rfl, .inr ⟨p, v, rfl, .inl ⟨ks, k, hd, rfl, h5.symm⟩, fin h6 q⟩⟩
      · cases e
    · cases e
  · cases e
end
end Tw
/-! Core5: slices, displays, built-ins, truth. -/
namespace Tw
open PySem PySem.Spec L2

/-! ### slices -/
def cutA {α : Type} (xs : List α) (lo hi : Option Int) : List α := (xs.drop (HT.sIx xs.length 0 lo)).take (HT.sIx xs.length xs.length hi - HT.sIx xs.length 0 lo)
theorem cutA_length {α : Type} (xs : List α) (lo hi : Option Int) : (cutA xs lo hi).length ≤ xs.length := by
  unfold cutA
  rw [List.length_take, List.length_drop]
  omega
@[simp] theorem cutA_map {α β : Type} (f : α → β) (xs : List α) (lo hi : Option Int) : cutA (xs.map f) lo hi = (cutA xs lo hi).map f := by
  unfold cutA
  rw [List.length_map, ← List.map_drop, ← List.map_take]
/-- x[a:b], by natural numbers -/
theorem cutA_nat {α : Type} (xs : List α) (a b : Nat) : cutA xs (some (a : Int)) (some (b : Int)) = (xs.drop a).take (b - a) := by
  unfold cutA
  rw [HT.sIx_nat, HT.sIx_nat]
  by_cases h : a ≤ xs.length
  · rw [Nat.min_eq_left h]
    by_cases h2 : b ≤ xs.length
    · rw [Nat.min_eq_left h2]
    · rw [Nat.min_eq_right (show xs.length ≤ b by omega), List.take_of_length_le (by rw [List.length_drop]; omega), List.take_of_length_le (by rw [List.length_drop]; omega)]
  · rw [Nat.min_eq_right (show xs.length ≤ a by omega)]
    rw [show xs.drop xs.length = [] from List.drop_of_length_le (Nat.le_refl _), show xs.drop a = [] from List.drop_of_length_le (by omega)]
    simp
theorem cutA_to {α : Type} (xs : List α) (b : Nat) : cutA xs none (some (b : Int)) = xs.take b := by
  unfold cutA
  rw [HT.sIx_none, HT.sIx_nat]
  by_cases h2 : b ≤ xs.length
  · rw [Nat.min_eq_left h2]; simp
  · rw [Nat.min_eq_right (by omega)]
    simp only [List.drop_zero, Nat.sub_zero]
    rw [List.take_of_length_le (Nat.le_refl _), List.take_of_length_le (by omega)]
theorem cutA_from {α : Type} (xs : List α) (a : Nat) : cutA xs (some (a : Int)) none = xs.drop a := by
  unfold cutA
  rw [HT.sIx_nat, HT.sIx_none]
  by_cases h : a ≤ xs.length
  · rw [Nat.min_eq_left h, List.take_of_length_le (by rw [List.length_drop]; omega)]
  · rw [Nat.min_eq_right (by omega), List.drop_of_length_le (Nat.le_refl _), List.drop_of_length_le (by omega)]
    simp
theorem cutA_whole {α : Type} (xs : List α) {lo hi : Option Int} (h : HT.sIx xs.length 0 lo = 0 ∧ HT.sIx xs.length xs.length hi = xs.length) : cutA xs lo hi = xs := by
  unfold cutA
  rw [h.1, h.2]; simp
section
variable (K : PySem.W.Frag) (G : Str → Option Value)
def OSem (t : TO) (f : En → Option (Option Int)) : Prop := ∀ (F B : Hp) (σ : L2.St) (ρ : En) (H : Hp) (o : Option Int) (Q : Option Int → Hp → Prop), SV K G F B σ ρ → Same F H → Same B H → f ρ = some o →
  (∀ F' H', Pst F H F' H' → Q o H') → t σ H Q
end
structure POX (X : Cx) (e : Option Expr) (t : TO) (f : En → Option (Option Int)) : Prop where
  run : PO X e t
  sem : OSem X.K X.mg t f
def oNo : En → Option (Option Int) := fun _ => some none
def oSome (f : En → Option O) : En → Option (Option Int) := fun ρ => (f ρ).bind fun o => match o.rd with
  | .int i => some (some i)
  | _ => none
theorem pox_no {X : Cx} : POX X none tNoPart oNo := ⟨po_none, fun F B σ ρ H o Q hσ hF hB e q => by cases e; exact q F H (Pst.refl hF)⟩
theorem pox_some {X : Cx} {e : Expr} {te : TE} {f : En → Option O} (h : PX X e te f) : POX X (some e) (tPart te) (oSome f) := ⟨po_some h.run, fun F B σ ρ H o Q hσ hF hB e q => by
  unfold oSome at e
  obtain ⟨oa, ea, e⟩ := Option.bind_eq_some_iff.mp e
  refine h.sem F B σ ρ H oa _ hσ hF hB ea fun v F1 H1 S p r w n => ?_
  have q1 := r.all p.fs (p.b hB)
  split at e
  · rename_i i hi
    rw [hi] at q1
    cases q1.int_inv
    cases e
    exact ⟨i, rfl, q F1 H1 p⟩
  · cases e⟩
/-- fr of fr items, bo of what is borrowed -/
def O.frs : List O → Option (List D)
  | [] => some []
  | .fr d :: r => (O.frs r).map (d :: ·)
  | _ :: _ => none
@[simp] theorem frs_nil : O.frs [] = some [] := rfl
@[simp] theorem frs_cons (d : D) (r) : O.frs (.fr d :: r) = (O.frs r).map (d :: ·) := rfl
@[simp] theorem frs_map {α : Type} (f : α → D) : ∀ xs : List α, O.frs (xs.map fun x => .fr (f x)) = some (xs.map f)
  | [] => rfl
  | x :: xs => by simp [frs_map f xs]
theorem frs_eq : ∀ {os : List O} {ds : List D}, O.frs os = some ds → os = ds.map .fr
  | [], ds, h => by simp at h; subst h; rfl
  | .fr d :: r, ds, h => by
    simp only [frs_cons, Option.map_eq_some_iff] at h
    obtain ⟨es, h1, rfl⟩ := h
    rw [frs_eq h1]; rfl
  | .bo _ :: _, _, h => by simp [O.frs] at h
  | .list _ :: _, _, h => by simp [O.frs] at h
  | .tup _ :: _, _, h => by simp [O.frs] at h
  | .dict _ :: _, _, h => by simp [O.frs] at h
  | .obj _ _ :: _, _, h => by simp [O.frs] at h
/-- a new tuple: frozen where all its items are -/
def mkTup (os : List O) : O := match O.frs os with
  | some ds => .fr (.tup ds)
  | none => .tup os
@[simp] theorem mkTup_frs {os : List O} {ds : List D} (h : O.frs os = some ds) : mkTup os = .fr (.tup ds) := by unfold mkTup; rw [h]
def gSl (a : O) (lo hi : Option Int) : Option O := match a, a.rd with
  | .fr (.tup ds), _ => some (.fr (.tup (cutA ds lo hi)))
  | _, .list _ => (a.itsL).map fun os => .list (cutA os lo hi)
  | _, .str x => if x.length ≤ LINE then some (.fr (.str (cutS x lo hi))) else none
  | _, _ => none
theorem gSl_inv {a o : O} {lo hi : Option Int} (e : gSl a lo hi = some o) : (∃ ds, a = .fr (.tup ds) ∧ o = .fr (.tup (cutA ds lo hi))) ∨ (∃ os, a.itsL = some os ∧ o = .list (cutA os lo hi)) ∨ (∃ x, a.rd = .str x ∧ x.length ≤ LINE ∧ o = .fr (.str (cutS x lo hi))) := by
  unfold gSl at e
  split at e
  · cases e; exact .inl ⟨_, rfl, rfl⟩
  · obtain ⟨os, e1, e⟩ := Option.map_eq_some_iff.mp e
    cases e; exact .inr (.inl ⟨os, e1, rfl⟩)
  · split at e
    · rename_i h _ hz
      cases e; exact .inr (.inr ⟨_, by assumption, hz, rfl⟩)
    · cases e
  · cases e
def xSl (fa : En → Option O) (fl fh : En → Option (Option Int)) : En → Option O := fun ρ => (fa ρ).bind fun a => (fl ρ).bind fun l => (fh ρ).bind fun h => gSl a l h
def rSlX (K : PySem.W.Frag) : V → Option Int → Option Int → Hp → VK → Prop := fun x lo hi H Q => (rSlL K x lo hi H Q ∨ rSlA K x lo hi H Q) ∨ rSlS x lo hi H Q
theorem sl_X {X : Cx} : SlR X (rSlX X.K) := (sl_list.or sl_tupA).or sl_str
section
variable {K : PySem.W.Frag} {G : Str → Option Value} {F B H : Hp}
theorem ORs.cut {vs : List V} {os : List O} {S : Rg} (h : ORs K G F B H vs os S) (lo hi : Option Int) : ORs K G F B H (cutV vs lo hi) (cutA os lo hi) S := by
  unfold cutV cutA
  rw [h.length]
  exact (h.drop _).take _
theorem ORs.fr_inv : ∀ {vs : List V} {ds : List D} {S : Rg}, ORs K G F B H vs (ds.map .fr) S → Rs K G F vs ds
  | _, [], _, .nil => .nil
  | _, d :: ds, _, .cons a t _ _ _ => by
    cases a with
    | fr r => exact .cons r (ORs.fr_inv t)
/-- a new frozen tuple -/
theorem fin_tupF {p : Addr} {vs : List V} {ds : List D} {S : Rg} {Q : VK} (hF : Same F H) (hp : H p = none) (r : Rs K G F vs ds)
    (q : ∀ v F' H' S', Pst F H F' H' → OR K G F' B H' v (.fr (.tup ds)) S' → Own F' H' S' → (∀ b, S' b → S b ∨ H b = none) → Q v H') : Q (.ref p) (upd H p (.tup vs)) := by
  have hFp := hF.free hp
  have ss : Same (upd F p (.tup vs)) (upd H p (.tup vs)) := fun b o e => by
    by_cases hb : b = p
    · subst hb; rw [upd_same] at e ⊢; exact e
    · rw [upd_ne hb] at e ⊢; exact hF _ _ e
  refine q (.ref p) (upd F p (.tup vs)) _ (fun _ => False) ⟨new_same hp, new_same hFp, ss, fun b z => ?_⟩ (.fr (.tup (SqT.of upd_same) (Rs.same (new_same hFp) r))) (fun _ z => z.elim) fun _ z => z.elim
  by_cases hb : b = p
  · subst hb; exact .inr hp
  · rw [upd_ne hb] at z; exact .inl z
theorem fin_fr {v : V} {d : D} {Q : VK} {S : Rg} (hF : Same F H) (r : R K G F v d)
    (q : ∀ v F' H' S', Pst F H F' H' → OR K G F' B H' v (.fr d) S' → Own F' H' S' → (∀ b, S' b → S b ∨ H b = none) → Q v H') : Q v H := fin_leaf (B := B) (S := S) hF r q
end
section
variable {K : PySem.W.Frag} {G : Str → Option Value}
theorem esem_sl {te : TE} {tl th : TO} {fa : En → Option O} {fl fh : En → Option (Option Int)} (ha : ESem K G te fa) (hl : OSem K G tl fl) (hh : OSem K G th fh) : ESem K G (tSl (rSlX K) te tl th) (xSl fa fl fh) := by
  intro F B σ ρ H o Q hσ hF hB e q
  unfold xSl at e
  obtain ⟨oa, ea, e⟩ := Option.bind_eq_some_iff.mp e
  obtain ⟨lo, el, e⟩ := Option.bind_eq_some_iff.mp e
  obtain ⟨hi, eh, e⟩ := Option.bind_eq_some_iff.mp e
  refine ha F B σ ρ H oa _ hσ hF hB ea fun v F1 H1 S p1 r w n => ?_
  refine hl F1 B σ ρ H1 lo _ (hσ.mono p1.fm) p1.fs (p1.b hB) el fun F2 H2 p2 => ?_
  refine hh F2 B σ ρ H2 hi _ (hσ.mono (p1.fm.trans p2.fm)) p2.fs ((p1.trans p2).b hB) eh fun F3 H3 p3 => ?_
  have p13 := p2.trans p3
  have p03 := p1.trans p13
  have r3 : OR K G F3 B H3 v oa S := r.mono p13.fm (Same.refl _) fun b u _ e => p13.same _ _ e
  have w3 : Own F3 H3 S := w.mono p13
  have q3 := r3.all p3.fs (p03.b hB)
  have q' : ∀ v F' H' S', Pst F3 H3 F' H' → OR K G F' B H' v o S' → Own F' H' S' → (∀ b, S' b → S b ∨ H3 b = none) → Q v H' := fun v F' H' S' p r w n' => q v F' H' S' (p03.trans p) r w fun b z => (n' b z).elim (n b) p03.same.free
  rcases gSl_inv e with ⟨ds, rfl, rfl⟩ | ⟨os, e1, rfl⟩ | ⟨x, h, hz, rfl⟩
  · cases r3 with
    | fr r =>
      obtain ⟨a, vs, rfl, hs, t⟩ := r.tup_inv
      refine .inl (.inr ⟨a, vs, rfl, SqT.same p3.fs hs, fun hw => ?_, fun hw p hp => fin_tupF (S := S) p3.fs hp ?_ q'⟩)
      · rw [t.length] at hw
        rw [cutA_whole ds hw] at q'
        exact fin_fr (S := S) p3.fs r q'
      · unfold cutV cutA
        rw [t.length]
        exact (t.drop _).take _
  · obtain ⟨a, vs, rfl, hs, t⟩ := r3.itemsL p3.fs (p03.b hB) e1
    exact .inl (.inl ⟨a, vs, rfl, .inl hs, fun p hp => fin_list p3.fs hp (t.cut lo hi) w3 q'⟩)
  · rw [h] at q3
    cases q3.str_inv
    exact .inr ⟨x, rfl, by rw [line_eq]; exact hz, fin_leaf (B := B) (S := S) p3.fs (.str _) q'⟩
end

/-! ### displays -/
def gLst (os : List O) : Option O := if os.length ≤ LINE then some (.list os) else none
def gTup (os : List O) : Option O := if os.length ≤ LINE then some (mkTup os) else none
section
variable {K : PySem.W.Frag} {G : Str → Option Value}
theorem esem_lst {t : TA} {f : En → Option (List O)} (ha : ASem K G t f) : ESem K G (tLst t) (xL gLst f) := by
  intro F B σ ρ H o Q hσ hF hB e q
  unfold xL gLst at e
  obtain ⟨os, ea, e⟩ := Option.bind_eq_some_iff.mp e
  split at e
  · rename_i hz
    cases e
    refine ha F B σ ρ H os _ hσ hF hB ea fun vs F1 H1 S p1 r w n => ?_
    exact ⟨by rw [r.length, line_eq]; exact hz, fun p hp => fin_list p1.fs hp r w fun v F2 H2 S' p2 r2 w2 n2 => q v F2 H2 S' (p1.trans p2) r2 w2 fun b z => (n2 b z).elim (n b) p1.same.free⟩
  · cases e
theorem esem_tup {t : TA} {f : En → Option (List O)} (ha : ASem K G t f) : ESem K G (tTup t) (xL Tw.gTup f) := by
  intro F B σ ρ H o Q hσ hF hB e q
  unfold xL Tw.gTup at e
  obtain ⟨os, ea, e⟩ := Option.bind_eq_some_iff.mp e
  split at e
  · rename_i hz
    cases e
    refine ha F B σ ρ H os _ hσ hF hB ea fun vs F1 H1 S p1 r w n => ?_
    refine ⟨by rw [r.length, line_eq]; exact hz, fun p hp => ?_⟩
    unfold mkTup at q
    split at q
    · rename_i ds hd
      rw [frs_eq hd] at r
      exact fin_tupF (S := S) p1.fs hp r.fr_inv fun v F2 H2 S' p2 r2 w2 n2 => q v F2 H2 S' (p1.trans p2) r2 w2 fun b z => (n2 b z).elim (n b) p1.same.free
    · exact fin_tup p1.fs hp r w fun v F2 H2 S' p2 r2 w2 n2 => q v F2 H2 S' (p1.trans p2) r2 w2 fun b z => (n2 b z).elim (n b) p1.same.free
  · cases e
end

/-! ### built-in calls -/
/-- list(x) -/
def gList : List O → Option O
  | [a] => match a.rd with
    | .list _ => (a.itsL).map .list
    | .tup _ => (a.itsT).map .list
    | _ => none
  | _ => none
def gInt : List O → Option O
  | [a] => match a.rd with
    | .int i => some (.fr (.int i))
    | .bool b => some (.fr (.int (if b then 1 else 0)))
    | _ => none
  | _ => none
@[simp] theorem gInt_int (i : Int) : gInt [.fr (.int i)] = some (.fr (.int i)) := by simp [gInt]
@[simp] theorem gInt_bool (i : Bool) : gInt [.fr (.bool i)] = some (.fr (.int (if i then 1 else 0))) := by simp [gInt]
def D.ints : List D → Option (List Int)
  | [] => Option.some []
  | .int i :: r => (D.ints r).map (i :: ·)
  | _ :: _ => Option.none
@[simp] theorem ints_map : ∀ ns : List Int, D.ints (ns.map D.int) = some ns
  | [] => rfl
  | n :: ns => by simp [D.ints, ints_map ns]
theorem ints_eq : ∀ {ds : List D} {ns : List Int}, D.ints ds = some ns → ds = ns.map D.int
  | [], ns, h => by simp [D.ints] at h; subst h; rfl
  | .int i :: r, ns, h => by
    simp only [D.ints, Option.map_eq_some_iff] at h
    obtain ⟨es, h1, rfl⟩ := h
    rw [ints_eq h1]; rfl
  | .none :: _, _, h => by simp [D.ints] at h
  | .bool _ :: _, _, h => by simp [D.ints] at h
  | .str _ :: _, _, h => by simp [D.ints] at h
  | .list _ :: _, _, h => by simp [D.ints] at h
  | .tup _ :: _, _, h => by simp [D.ints] at h
  | .dict _ :: _, _, h => by simp [D.ints] at h
  | .obj _ _ :: _, _, h => by simp [D.ints] at h
def D.bools : List D → Option (List Bool)
  | [] => Option.some []
  | .bool i :: r => (D.bools r).map (i :: ·)
  | _ :: _ => Option.none
@[simp] theorem bools_map : ∀ ns : List Bool, D.bools (ns.map D.bool) = some ns
  | [] => rfl
  | n :: ns => by simp [D.bools, bools_map ns]
theorem bools_eq : ∀ {ds : List D} {ns : List Bool}, D.bools ds = some ns → ds = ns.map D.bool
  | [], ns, h => by simp [D.bools] at h; subst h; rfl
  | .bool i :: r, ns, h => by
    simp only [D.bools, Option.map_eq_some_iff] at h
    obtain ⟨es, h1, rfl⟩ := h
    rw [bools_eq h1]; rfl
  | .none :: _, _, h => by simp [D.bools] at h
  | .int _ :: _, _, h => by simp [D.bools] at h
  | .str _ :: _, _, h => by simp [D.bools] at h
  | .list _ :: _, _, h => by simp [D.bools] at h
  | .tup _ :: _, _, h => by simp [D.bools] at h
  | .dict _ :: _, _, h => by simp [D.bools] at h
  | .obj _ _ :: _, _, h => by simp [D.bools] at h
/-- the greatest, the least -/
def maxI : List Int → Int
  | [] => 0
  | x :: r => r.foldl max x
def minI : List Int → Int
  | [] => 0
  | x :: r => r.foldl min x
theorem foldl_max_ge (r : List Int) : ∀ x : Int, x ≤ r.foldl max x ∧ (∀ y ∈ r, y ≤ r.foldl max x) ∧ (r.foldl max x = x ∨ r.foldl max x ∈ r) := by
  induction r with
  | nil => intro x; simp
  | cons a r ih =>
    intro x
    have := ih (max x a)
    simp only [List.foldl_cons, List.mem_cons]
    refine ⟨by omega, ?_, ?_⟩
    · rintro y (rfl | h)
      · omega
      · exact this.2.1 y h
    · rcases this.2.2 with h | h
      · rw [h]; omega
      · exact .inr (.inr h)
theorem foldl_min_le (r : List Int) : ∀ x : Int, r.foldl min x ≤ x ∧ (∀ y ∈ r, r.foldl min x ≤ y) ∧ (r.foldl min x = x ∨ r.foldl min x ∈ r) := by
  induction r with
  | nil => intro x; simp
  | cons a r ih =>
    intro x
    have := ih (min x a)
    simp only [List.foldl_cons, List.mem_cons]
    refine ⟨by omega, ?_, ?_⟩
    · rintro y (rfl | h)
      · omega
      · exact this.2.1 y h
    · rcases this.2.2 with h | h
      · rw [h]; omega
      · exact .inr (.inr h)
theorem maxI_ge {ns : List Int} {y : Int} (h : y ∈ ns) : y ≤ maxI ns := by
  cases ns with
  | nil => simp at h
  | cons x r =>
    have := foldl_max_ge r x
    rcases List.mem_cons.mp h with rfl | h
    · exact this.1
    · exact this.2.1 y h
theorem maxI_mem {ns : List Int} (h : ns ≠ []) : maxI ns ∈ ns := by
  cases ns with
  | nil => exact absurd rfl h
  | cons x r =>
    rcases (foldl_max_ge r x).2.2 with h | h
    · show r.foldl max x ∈ _; rw [h]; simp
    · exact List.mem_cons_of_mem _ h
theorem minI_le {ns : List Int} {y : Int} (h : y ∈ ns) : minI ns ≤ y := by
  cases ns with
  | nil => simp at h
  | cons x r =>
    have := foldl_min_le r x
    rcases List.mem_cons.mp h with rfl | h
    · exact this.1
    · exact this.2.1 y h
theorem minI_mem {ns : List Int} (h : ns ≠ []) : minI ns ∈ ns := by
  cases ns with
  | nil => exact absurd rfl h
  | cons x r =>
    rcases (foldl_min_le r x).2.2 with h | h
    · show r.foldl min x ∈ _; rw [h]; simp
    · exact List.mem_cons_of_mem _ h
/-- of a list of ints -/
def gInts (g : List Int → Option D) : List O → Option O
  | [a] => match a.rd with
    | .list ds => (D.ints ds).bind fun ns => (g ns).map .fr
    | _ => none
  | _ => none
def gBools (g : List Bool → D) : List O → Option O
  | [a] => match a.rd with
    | .list ds => (D.bools ds).map fun ns => .fr (g ns)
    | _ => none
  | _ => none
def gMax2 : List O → Option O
  | [a, b] => match a.rd, b.rd with
    | .int i, .int j => some (.fr (.int (max i j)))
    | _, _ => none
  | _ => none
def gMin2 : List O → Option O
  | [a, b] => match a.rd, b.rd with
    | .int i, .int j => some (.fr (.int (min i j)))
    | _, _ => none
  | _ => none
@[simp] theorem gMax2_int (i j : Int) : gMax2 [.fr (.int i), .fr (.int j)] = some (.fr (.int (max i j))) := by simp [gMax2]
@[simp] theorem gMin2_int (i j : Int) : gMin2 [.fr (.int i), .fr (.int j)] = some (.fr (.int (min i j))) := by simp [gMin2]
section
variable {K : PySem.W.Frag} {G : Str → Option Value}
theorem rsem_list : RSem K G (fun xs H Q => ∃ p ys, xs = [.ref p] ∧ (SqL K H p ys ∨ SqT K H p ys) ∧ ∀ l, H l = none → Q (.ref l) (upd H l (.lst ys))) gList := by
  intro F B H vs os S o Q hF hB rs w nb e q
  unfold gList at e
  split at e
  · rename_i a
    obtain ⟨va, rfl, r1⟩ := rs.one
    split at e
    · obtain ⟨xs, e1, e⟩ := Option.map_eq_some_iff.mp e
      cases e
      obtain ⟨p, us, rfl, hs, t⟩ := r1.itemsL hF hB e1
      exact ⟨p, us, rfl, .inl (.inl hs), fun l hl => fin_list hF hl t w q⟩
    · obtain ⟨xs, e1, e⟩ := Option.map_eq_some_iff.mp e
      cases e
      obtain ⟨p, us, rfl, hs, t⟩ := r1.itemsT hF hB e1
      exact ⟨p, us, rfl, .inr hs, fun l hl => fin_list hF hl t w q⟩
    · cases e
  · cases e
theorem rsem_int : RSem K G (fun xs H Q => (∃ i, xs = [.int i] ∧ Q (.int i) H) ∨ ∃ k, xs = [.bl k] ∧ Q (.int (if k then 1 else 0)) H) gInt := by
  intro F B H vs os S o Q hF hB rs w nb e q
  unfold gInt at e
  split at e
  · rename_i a
    obtain ⟨va, rfl, r1⟩ := rs.one
    have q1 := r1.all hF hB
    split at e
    · rename_i i h
      rw [h] at q1
      cases q1.int_inv
      cases e
      exact .inl ⟨i, rfl, fin_leaf (B := B) (S := S) hF (.int _) q⟩
    · rename_i i h
      rw [h] at q1
      cases q1.bool_inv
      cases e
      exact .inr ⟨i, rfl, fin_leaf (B := B) (S := S) hF (.int _) q⟩
    · cases e
  · cases e
theorem ints_at {F B H : Hp} {v : V} {a : O} {S : Rg} {ds : List D} {ns : List Int} (r1 : OR K G F B H v a S) (hF : Same F H) (hB : Same B H) (h : a.rd = .list ds) (hn : D.ints ds = some ns) : ∃ p, v = .ref p ∧ Rd H p (.lst (ns.map V.int)) := by
  have q1 := r1.all hF hB
  rw [h, ints_eq hn] at q1
  obtain ⟨p, us, rfl, hs, t⟩ := q1.list_inv
  rw [t.ints] at hs
  exact ⟨p, rfl, hs⟩
theorem rsem_ints {g : List Int → Option D} {r : List V → Hp → VK → Prop} {gv : List Int → V} (hg : ∀ ns d F, g ns = some d → R K G F (gv ns) d) (hr : ∀ a ns H Q d, g ns = some d → SqL K H a (ns.map V.int) → Q (gv ns) H → r [V.ref a] H Q) : RSem K G r (gInts g) := by
  intro F B H vs os S o Q hF hB rs w nb e q
  unfold gInts at e
  split at e
  · rename_i a
    obtain ⟨va, rfl, r1⟩ := rs.one
    split at e
    · rename_i ds h
      obtain ⟨ns, e1, e⟩ := Option.bind_eq_some_iff.mp e
      obtain ⟨d, e2, e⟩ := Option.map_eq_some_iff.mp e
      cases e
      obtain ⟨p, rfl, hs⟩ := ints_at r1 hF hB h e1
      exact hr p ns H Q d e2 (.inl hs) (fin_leaf (B := B) (S := S) hF (hg ns d F e2) q)
    · cases e
  · cases e
theorem rsem_sum : RSem K G (rSum K) (gInts fun ns => some (.int ns.sum)) := rsem_ints (gv := fun ns => .int ns.sum) (fun ns d F h => by cases h; exact .int _) fun a ns H Q d _ hs q => ⟨a, ns, rfl, hs, q⟩
theorem rsem_max : RSem K G (rMax K) (gInts fun ns => if ns = [] then none else some (.int (maxI ns))) := rsem_ints (gv := fun ns => .int (maxI ns)) (fun ns d F h => by split at h <;> cases h; exact .int _) fun a ns H Q d h hs q => by
  split at h
  · cases h
  · rename_i hne
    refine ⟨a, ns, rfl, hs, List.length_pos_iff.mpr hne, fun m h1 h2 => ?_⟩
    have : m = maxI ns := Int.le_antisymm (maxI_ge h1) (h2 _ (maxI_mem hne))
    rw [this]; exact q
theorem rsem_min : RSem K G (rMin K) (gInts fun ns => if ns = [] then none else some (.int (minI ns))) := rsem_ints (gv := fun ns => .int (minI ns)) (fun ns d F h => by split at h <;> cases h; exact .int _) fun a ns H Q d h hs q => by
  split at h
  · cases h
  · rename_i hne
    refine ⟨a, ns, rfl, hs, List.length_pos_iff.mpr hne, fun m h1 h2 => ?_⟩
    have : m = minI ns := Int.le_antisymm (h2 _ (minI_mem hne)) (minI_le h1)
    rw [this]; exact q
theorem rsem_bools {g : List Bool → Bool} {r : List V → Hp → VK → Prop} (hr : ∀ a ns H Q, SqL K H a (ns.map V.bl) → Q (.bl (g ns)) H → r [V.ref a] H Q) : RSem K G r (gBools fun ns => .bool (g ns)) := by
  intro F B H vs os S o Q hF hB rs w nb e q
  unfold gBools at e
  split at e
  · rename_i a
    obtain ⟨va, rfl, r1⟩ := rs.one
    split at e
    · rename_i ds h
      obtain ⟨ns, e1, e⟩ := Option.map_eq_some_iff.mp e
      cases e
      have q1 := r1.all hF hB
      rw [h, bools_eq e1] at q1
      obtain ⟨p, us, rfl, hs, t⟩ := q1.list_inv
      rw [t.bools] at hs
      exact hr p ns H Q (.inl hs) (fin_leaf (B := B) (S := S) hF (.bl _) q)
    · cases e
  · cases e
theorem rsem_all : RSem K G (rAll K) (gBools fun ns => .bool (ns.all id)) := rsem_bools (g := fun ns => ns.all id) fun a ns H Q hs q => ⟨a, ns, rfl, hs, q⟩
theorem rsem_any : RSem K G (rAny K) (gBools fun ns => .bool (ns.any id)) := rsem_bools (g := fun ns => ns.any id) fun a ns H Q hs q => ⟨a, ns, rfl, hs, q⟩
theorem rsem_max2 : RSem K G (fun xs H Q => ∃ i j, xs = [.int i, .int j] ∧ Q (.int (if j > i then j else i)) H) gMax2 := by
  intro F B H vs os S o Q hF hB rs w nb e q
  unfold gMax2 at e
  split at e
  · rename_i a b
    obtain ⟨va, vb, S1, S2, rfl, r1, r2, dj, s1, s2⟩ := rs.two
    have q1 := r1.all hF hB
    have q2 := r2.all hF hB
    split at e
    · rename_i i j h1 h2
      rw [h1] at q1
      rw [h2] at q2
      cases q1.int_inv
      cases q2.int_inv
      cases e
      refine ⟨i, j, rfl, ?_⟩
      have : (if j > i then j else i) = max i j := by split <;> omega
      rw [this]
      exact fin_leaf (B := B) (S := S) hF (.int _) q
    · cases e
  · cases e
theorem rsem_min2 : RSem K G (fun xs H Q => ∃ i j, xs = [.int i, .int j] ∧ Q (.int (if j < i then j else i)) H) gMin2 := by
  intro F B H vs os S o Q hF hB rs w nb e q
  unfold gMin2 at e
  split at e
  · rename_i a b
    obtain ⟨va, vb, S1, S2, rfl, r1, r2, dj, s1, s2⟩ := rs.two
    have q1 := r1.all hF hB
    have q2 := r2.all hF hB
    split at e
    · rename_i i j h1 h2
      rw [h1] at q1
      rw [h2] at q2
      cases q1.int_inv
      cases q2.int_inv
      cases e
      refine ⟨i, j, rfl, ?_⟩
      have : (if j < i then j else i) = min i j := by split <;> omega
      rw [this]
      exact fin_leaf (B := B) (S := S) hF (.int _) q
    · cases e
  · cases e
end
end Tw
/-! Core6: tests, own calls, what is walked, comprehensions. -/
namespace Tw
open PySem PySem.Spec L2

/-! ### truth values -/
def oB : O → Option Bool := fun o => match o.rd with
  | .bool b => some b
  | _ => none
@[simp] theorem oB_bool (b : Bool) : oB (.fr (.bool b)) = some b := by simp [oB]
def tV (f : En → Option O) : En → Option Bool := fun ρ => (f ρ).bind oB
def tAndF (f g : En → Option Bool) : En → Option Bool := fun ρ => (f ρ).bind fun b => if b then g ρ else some false
def tOrF (f g : En → Option Bool) : En → Option Bool := fun ρ => (f ρ).bind fun b => if b then some true else g ρ
def tNotF (f : En → Option Bool) : En → Option Bool := fun ρ => (f ρ).map (!·)
def xAndF (f g : En → Option O) : En → Option O := fun ρ => (f ρ).bind fun o => (oB o).bind fun b => if b then g ρ else some (.fr (.bool false))
def xOrF (f g : En → Option O) : En → Option O := fun ρ => (f ρ).bind fun o => (oB o).bind fun b => if b then some (.fr (.bool true)) else g ρ
def xNotF (f : En → Option O) : En → Option O := fun ρ => (f ρ).bind fun o => (oB o).map fun b => .fr (.bool (!b))
def xIfF (c : En → Option Bool) (f g : En → Option O) : En → Option O := fun ρ => (c ρ).bind fun b => if b then f ρ else g ρ
theorem oB_eq {o : O} {b : Bool} (h : oB o = some b) : o.rd = .bool b := by
  unfold oB at h
  split at h
  · rename_i x e; cases h; exact e
  · cases h
section
variable {K : PySem.W.Frag} {G : Str → Option Value}
theorem tsem_of {t : TE} {f : En → Option O} (h : ESem K G t f) : TSem K G (fun σ H Q => t σ H fun x H1 => ∃ c, x = .bl c ∧ Q c H1) (tV f) := by
  intro F B σ ρ H o Q hσ hF hB e q
  unfold tV at e
  obtain ⟨oa, ea, e⟩ := Option.bind_eq_some_iff.mp e
  refine h F B σ ρ H oa _ hσ hF hB ea fun v F1 H1 S p r w n => ?_
  have q1 := r.all p.fs (p.b hB)
  rw [oB_eq e] at q1
  cases q1.bool_inv
  exact ⟨o, rfl, q F1 H1 p⟩
theorem tsem_and {t u : TT} {f g : En → Option Bool} (h : TSem K G t f) (h' : TSem K G u g) : TSem K G (tAnd t u) (tAndF f g) := by
  intro F B σ ρ H o Q hσ hF hB e q
  unfold tAndF at e
  obtain ⟨b, eb, e⟩ := Option.bind_eq_some_iff.mp e
  refine h F B σ ρ H b _ hσ hF hB eb fun F1 H1 p => ?_
  cases b with
  | true => exact h' F1 B σ ρ H1 o Q (hσ.mono p.fm) p.fs (p.b hB) (by simpa using e) fun F2 H2 p2 => q F2 H2 (p.trans p2)
  | false => simp only [Bool.false_eq_true, if_false, Option.some.injEq] at e ⊢; subst e; exact q F1 H1 p
theorem tsem_or {t u : TT} {f g : En → Option Bool} (h : TSem K G t f) (h' : TSem K G u g) : TSem K G (tOr t u) (tOrF f g) := by
  intro F B σ ρ H o Q hσ hF hB e q
  unfold tOrF at e
  obtain ⟨b, eb, e⟩ := Option.bind_eq_some_iff.mp e
  refine h F B σ ρ H b _ hσ hF hB eb fun F1 H1 p => ?_
  cases b with
  | false => exact h' F1 B σ ρ H1 o Q (hσ.mono p.fm) p.fs (p.b hB) (by simpa using e) fun F2 H2 p2 => q F2 H2 (p.trans p2)
  | true => simp only [if_true, Option.some.injEq] at e ⊢; subst e; exact q F1 H1 p
theorem tsem_not {t : TT} {f : En → Option Bool} (h : TSem K G t f) : TSem K G (tNot t) (tNotF f) := by
  intro F B σ ρ H o Q hσ hF hB e q
  unfold tNotF at e
  obtain ⟨b, eb, e⟩ := Option.map_eq_some_iff.mp e
  subst e
  exact h F B σ ρ H b _ hσ hF hB eb q
theorem esem_and {ta tb : TE} {f g : En → Option O} (h : ESem K G ta f) (h' : ESem K G tb g) : ESem K G (tAndV ta tb) (xAndF f g) := by
  intro F B σ ρ H o Q hσ hF hB e q
  unfold xAndF at e
  obtain ⟨oa, ea, e⟩ := Option.bind_eq_some_iff.mp e
  obtain ⟨b, eb, e⟩ := Option.bind_eq_some_iff.mp e
  refine h F B σ ρ H oa _ hσ hF hB ea fun v F1 H1 S p r w n => ?_
  have q1 := r.all p.fs (p.b hB)
  rw [oB_eq eb] at q1
  cases q1.bool_inv
  refine ⟨b, rfl, ?_⟩
  cases b with
  | true => exact h' F1 B σ ρ H1 o Q (hσ.mono p.fm) p.fs (p.b hB) (by simpa using e) fun v F2 H2 S2 p2 r2 w2 n2 => q v F2 H2 S2 (p.trans p2) r2 w2 fun b z => p.same.free (n2 b z)
  | false => simp only [Bool.false_eq_true, if_false, Option.some.injEq] at e ⊢; subst e; exact q _ F1 H1 (fun _ => False) p (.fr (.bl _)) (fun _ z => z.elim) fun _ z => z.elim
theorem esem_or {ta tb : TE} {f g : En → Option O} (h : ESem K G ta f) (h' : ESem K G tb g) : ESem K G (tOrV ta tb) (xOrF f g) := by
  intro F B σ ρ H o Q hσ hF hB e q
  unfold xOrF at e
  obtain ⟨oa, ea, e⟩ := Option.bind_eq_some_iff.mp e
  obtain ⟨b, eb, e⟩ := Option.bind_eq_some_iff.mp e
  refine h F B σ ρ H oa _ hσ hF hB ea fun v F1 H1 S p r w n => ?_
  have q1 := r.all p.fs (p.b hB)
  rw [oB_eq eb] at q1
  cases q1.bool_inv
  refine ⟨b, rfl, ?_⟩
  cases b with
  | false => exact h' F1 B σ ρ H1 o Q (hσ.mono p.fm) p.fs (p.b hB) (by simpa using e) fun v F2 H2 S2 p2 r2 w2 n2 => q v F2 H2 S2 (p.trans p2) r2 w2 fun b z => p.same.free (n2 b z)
  | true => simp only [if_true, Option.some.injEq] at e ⊢; subst e; exact q _ F1 H1 (fun _ => False) p (.fr (.bl _)) (fun _ z => z.elim) fun _ z => z.elim
theorem esem_not {ta : TE} {f : En → Option O} (h : ESem K G ta f) : ESem K G (tNotV ta) (xNotF f) := by
  intro F B σ ρ H o Q hσ hF hB e q
  unfold xNotF at e
  obtain ⟨oa, ea, e⟩ := Option.bind_eq_some_iff.mp e
  obtain ⟨b, eb, e⟩ := Option.map_eq_some_iff.mp e
  subst e
  refine h F B σ ρ H oa _ hσ hF hB ea fun v F1 H1 S p r w n => ?_
  have q1 := r.all p.fs (p.b hB)
  rw [oB_eq eb] at q1
  cases q1.bool_inv
  exact ⟨b, rfl, q _ F1 H1 (fun _ => False) p (.fr (.bl _)) (fun _ z => z.elim) fun _ z => z.elim⟩
theorem esem_if {c : TT} {ta tb : TE} {fc : En → Option Bool} {f g : En → Option O} (hc : TSem K G c fc) (h : ESem K G ta f) (h' : ESem K G tb g) : ESem K G (tIf c ta tb) (xIfF fc f g) := by
  intro F B σ ρ H o Q hσ hF hB e q
  unfold xIfF at e
  obtain ⟨b, eb, e⟩ := Option.bind_eq_some_iff.mp e
  refine hc F B σ ρ H b _ hσ hF hB eb fun F1 H1 p => ?_
  cases b with
  | true => exact h F1 B σ ρ H1 o Q (hσ.mono p.fm) p.fs (p.b hB) (by simpa using e) fun v F2 H2 S2 p2 r2 w2 n2 => q v F2 H2 S2 (p.trans p2) r2 w2 fun b z => p.same.free (n2 b z)
  | false => exact h' F1 B σ ρ H1 o Q (hσ.mono p.fm) p.fs (p.b hB) (by simpa using e) fun v F2 H2 S2 p2 r2 w2 n2 => q v F2 H2 S2 (p.trans p2) r2 w2 fun b z => p.same.free (n2 b z)
end
def gNeg : List O → Option O
  | [a] => match a.rd with
    | .int i => some (.fr (.int (-i)))
    | _ => none
  | _ => none
@[simp] theorem gNeg_int (i : Int) : gNeg [.fr (.int i)] = some (.fr (.int (-i))) := by simp [gNeg]
theorem rsem_neg {K G} : RSem K G (fun vs H Q => ∃ x, vs = [x] ∧ (rU fun i => .int (-i)) x H Q) gNeg := by
  intro F B H vs os S o Q hF hB rs w nb e q
  unfold gNeg at e
  split at e
  · rename_i a
    obtain ⟨va, rfl, r1⟩ := rs.one
    have q1 := r1.all hF hB
    split at e
    · rename_i i h
      rw [h] at q1
      cases q1.int_inv
      cases e
      exact ⟨_, rfl, i, rfl, fin_leaf (B := B) (S := S) hF (.int _) q⟩
    · cases e
  · cases e

/-! ### isinstance -/
inductive Ty where | list | tup | int | bool | str | dict
def Ty.name : Ty → String
  | .list => "list" | .tup => "tuple" | .int => "int" | .bool => "bool" | .str => "str" | .dict => "dict"
def D.is (d : D) (T : Ty) : Bool := match d, T with
  | .list _, .list => true
  | .tup _, .tup => true
  | .int _, .int => true
  | .bool _, .int => true
  | .bool _, .bool => true
  | .str _, .str => true
  | .dict _, .dict => true
  | _, _ => false
def D.noObj : D → Bool
  | .obj _ _ => false
  | .kl _ => false
  | _ => true
def gIs (T : Ty) : O → Option O := fun a => if a.rd.noObj then some (.fr (.bool (a.rd.is T))) else none
def xIs (T : Ty) (f : En → Option O) : En → Option O := fun ρ => (f ρ).bind (gIs T)
theorem ty_of {K : PySem.W.Frag} {G : Str → Option Value} {H : Hp} {v : V} {d : D} (r : R K G H v d) (h : d.noObj = true) : ∃ n : String, TyX K H v (.type n) ∧ ∀ T : Ty, kitB n T.name = some (d.is T) := by
  cases r with
  | non => exact ⟨_, .base .non, fun T => by cases T <;> decide +kernel⟩
  | bl b => exact ⟨_, .base (.bl b), fun T => by cases T <;> (simp only [D.is]; decide +kernel)⟩
  | int b => exact ⟨_, .base (.int b), fun T => by cases T <;> (simp only [D.is]; decide +kernel)⟩
  | str b => exact ⟨_, .base (.str b), fun T => by cases T <;> (simp only [D.is]; decide +kernel)⟩
  | lst a b =>
    refine ⟨"list", ?_, fun T => by cases T <;> (simp only [D.is]; decide +kernel)⟩
    rcases a with a | ⟨o, a⟩
    · exact .base (.lst a)
    · exact .base (.frz a)
  | tup a b =>
    refine ⟨"tuple", ?_, fun T => by cases T <;> (simp only [D.is]; decide +kernel)⟩
    rcases a with (a | ⟨o, a⟩) | ⟨o, its, n, e, c, _⟩
    · exact .base (.tup a)
    · exact .fTuple a
    · exact .kTuple e c
  | dic a b =>
    refine ⟨"dict", ?_, fun T => by cases T <;> (simp only [D.is]; decide +kernel)⟩
    rcases a with a | ⟨o, a⟩
    · exact .base (.dK a)
    · exact .fDict a
  | obj => simp [D.noObj] at h
  | kl => simp [D.noObj] at h
section
variable {X : Cx}
theorem xIsi (T : Ty) {y : Str} {p p2 pos : Pos} {a : Expr} {ta : TE} {f : En → Option O} (hg : Gl X "isinstance") (hm : X.mg "isinstance" = none) (ht : Gl X y) (hmt : X.mg y = none) (hv : bootBuiltins y = some (.type T.name)) (ha : PX X a ta f)
    (hs : starEach [a, .Name y p2] X.env = (false, eval a X.env) :: starEach [.Name y p2] X.env := by rfl) (hn : y ≠ "__name__" := by decide) (hdb : (y == ("__debug__" : Str)) = false := by decide) :
    PX X (.Call (.Name "isinstance" p) [a, .Name y p2] [] pos) (tCB (rIsi X.K) (tCons ta (tCons (tC (.ty T.name)) tNil))) (xIs T f) := by
  refine ⟨pe_callB call_isi hg hm (by decide +kernel) (pa_cons ha.run (pa_cons (pe_bltn ht hmt hv rfl hn hdb) pa_nil) hs) (he := hs), ?_⟩
  intro F B σ ρ H o Q hσ hF hB e q
  unfold xIs at e
  obtain ⟨oa, ea, e⟩ := Option.bind_eq_some_iff.mp e
  unfold gIs at e
  split at e
  · rename_i hno
    cases e
    refine ha.sem F B σ ρ H oa _ hσ hF hB ea fun v F1 H1 S p r w n => ?_
    obtain ⟨nm, ty, k⟩ := ty_of (r.all p.fs (p.b hB)) hno
    exact ⟨v, .ty T.name, _, _, _, rfl, .ty _, ty, kit_ty (k T), q _ F1 H1 (fun _ => False) p (.fr (.bl _)) (fun _ z => z.elim) fun _ z => z.elim⟩
  · cases e
end

/-! ### x.index(y) -/
def idx (ds : List D) (d : D) : Option Nat := ds.findIdx? fun z => D.eqv z d
def gIndex : O → O → Option O := fun a b => match a.rd with
  | .list ds => if b.rd.sh 30 && D.shs ds 30 then Option.map (fun (j : Nat) => O.fr (D.int (j : Int))) (idx ds b.rd) else none
  | _ => none
def xIndex (fa fb : En → Option O) : En → Option O := fun ρ => (fa ρ).bind fun a => (fb ρ).bind fun b => gIndex a b
theorem pys_get : ∀ (ds : List D) (j : Nat), (D.pys ds)[j]? = (ds[j]?).map D.py
  | [], j => by simp [D.pys]
  | x :: xs, 0 => by simp [D.pys]
  | x :: xs, j + 1 => by simp [D.pys, pys_get xs j]
section
variable {X : Cx} {a b : Expr} {ta tb : TE} {fa fb : En → Option O} {pos p : Pos}
theorem xIdx (hu : X.A.units + 65 < cLine) (ha : PX X a ta fa) (hb : PX X b tb fb) (hbase : attributeBase a "index" X.env (eval a X.env) = eval a X.env := by rfl)
    (hfew : ((backTo pos (starEach [b] X.env)).all (fun x => !x.1) && (backToKw pos (keywordEach [] X.env)).all (fun x => x.1.isSome)
      && decide ([b].length + ([] : List Keyword).length + (if ([] : List Keyword).isEmpty then 0 else 1) < 30)) = true := by rfl)
    (hline : (p.endLine == pos.line) = true := by rfl) (hs : starEach [b] X.env = (false, eval b X.env) :: starEach [] X.env := by rfl) :
    PX X (.Call (.Attribute a "index" p) [b] [] pos) (tBM X.K "list" (rIndexD X.K) ta (tCons tb tNil)) (xIndex fa fb) := by
  refine ⟨pe_bm PySem.F.plainAttrs_list PySem.F.slot_list_index PySem.F.type_list_index (mt_indexD hu) ha.run (pa_cons hb.run pa_nil hs) hbase hfew hline hs, ?_⟩
  intro F B σ ρ H o Q hσ hF hB e q
  unfold xIndex at e
  obtain ⟨oa, ea, e⟩ := Option.bind_eq_some_iff.mp e
  obtain ⟨ob, eb, e⟩ := Option.bind_eq_some_iff.mp e
  unfold gIndex at e
  split at e
  · rename_i ds h
    split at e
    · rename_i hh
      rw [Bool.and_eq_true] at hh
      obtain ⟨j, hj, e⟩ := Option.map_eq_some_iff.mp e
      cases e
      refine ha.sem F B σ ρ H oa _ hσ hF hB ea fun v F1 H1 S p1 r w n => ?_
      have q1 := r.all p1.fs (p1.b hB)
      rw [h] at q1
      obtain ⟨l, us, rfl, hl, t⟩ := q1.list_inv
      refine ⟨.inl ⟨rfl, us, .inl hl⟩, ?_⟩
      refine hb.sem F1 B σ ρ H1 ob _ (hσ.mono p1.fm) p1.fs (p1.b hB) eb fun v2 F2 H2 S2 p2 r2 w2 n2 => ?_
      have q2 := r2.all p2.fs ((p1.trans p2).b hB)
      have t2 := Rs.same p2.same t
      have hl2 := Rd.same p2.same hl
      obtain ⟨hj1, hj2, hj3⟩ := List.findIdx?_eq_some_iff_getElem.mp hj
      refine ⟨l, v2, ob.rd.py, D.pys ds, j, ds[j].py, rfl, rfl, ?_, R.dp _ hh.1 q2, ?_, D.shaped hh.1 (by decide), ?_, hj2, fun m z hm hz => ?_, ?_⟩
      · have := R.dp (d := .list ds) 31 (by simpa [D.sh] using hh.2) (R.lst hl2 t2)
        simpa [D.py] using this
      · have := D.shaped (d := .list ds) (n := 31) (by simpa [D.sh] using hh.2) (by decide)
        simpa [D.py] using this
      · rw [pys_get, List.getElem?_eq_getElem hj1]; rfl
      · rw [pys_get] at hz
        obtain ⟨z', h1, h2⟩ := Option.map_eq_some_iff.mp hz
        subst h2
        have hm' : m < ds.length := by omega
        rw [List.getElem?_eq_getElem hm'] at h1
        cases h1
        have := hj3 m hm
        simpa [D.eqv] using this
      · exact q _ F2 H2 (fun _ => False) (p1.trans p2) (.fr (.int _)) (fun _ z => z.elim) fun _ z => z.elim
    · cases e
  · cases e
end

/-! ### defs of one's own -/
structure Ext (F H : Hp) (S : Rg) (F' H' : Hp) : Prop where
  keep : ∀ b u, H b = some u → ¬ S b → H' b = some u
  dom : ∀ b, H b ≠ none → H' b ≠ none
  fm : Same F F'
  fs : Same F' H'
  nw : ∀ b, F' b ≠ none → F b ≠ none ∨ H b = none ∨ S b
abbrev Fun1 := List O → Option (O × List O)
def Spg (K : PySem.W.Frag) (G : Str → Option Value) (fn : Fun1) : Sp := fun vs H Q _ => ∃ (F B : Hp) (os : List O) (S : Rg) (o : O) (os' : List O), ORs K G F B H vs os S ∧ Same F H ∧ Same B H ∧ Own F H S ∧ (∀ b, S b → B b = none) ∧ fn os = some (o, os') ∧
  ∀ v F' H' S1 S2, Ext F H S F' H' → OR K G F' B H' v o S1 → ORs K G F' B H' vs os' S2 → (∀ b, S1 b → S2 b → False) → Own F' H' S1 → Own F' H' S2 → (∀ b, S1 b ∨ S2 b → S b ∨ H b = none) → o.nb = true → Q v H'
/-- all frozen or borrowed -/
def O.lent : O → Bool
  | .fr _ => true
  | .bo _ => true
  | _ => false
def gCall (fn : Fun1) : List O → Option O := fun os => if os.all O.lent then (fn os).map (·.1) else none
theorem ORs.lent {K : PySem.W.Frag} {G : Str → Option Value} {F B H : Hp} : ∀ {vs : List V} {os : List O} {S S' : Rg}, os.all O.lent = true → ORs K G F B H vs os S → ORs K G F B H vs os S'
  | _, _, _, _, _, .nil => .nil
  | _, o :: os, _, S', h, .cons a b _ _ _ => by
    simp only [List.all_cons, Bool.and_eq_true] at h
    refine .cons (S1 := fun _ => False) (S2 := fun _ => False) ?_ (ORs.lent h.2 b) (fun _ z => z.elim) (fun _ z => z.elim) fun _ z => z.elim
    cases a with
    | fr r => exact .fr r
    | bo r => exact .bo r
    | _ => simp [O.lent] at h
theorem Ext.pst {F H F' H' : Hp} (e : Ext F H (fun _ => False) F' H') : Pst F H F' H' := ⟨fun b u h => e.keep b u h fun z => z, e.fm, e.fs, fun b h => (e.nw b h).imp_right fun z => z.elim id fun z => z.elim⟩
theorem rsem_call {K G} {fn : Fun1} {E : XK} : RSem K G (fun vs H Q => Spg K G fn (vs ++ []) H Q E) (gCall fn) := by
  intro F B H vs os S o Q hF hB rs w nb e q
  unfold gCall at e
  split at e
  · rename_i hl
    obtain ⟨⟨o', os'⟩, h1, rfl⟩ := Option.map_eq_some_iff.mp e
    rw [List.append_nil]
    refine ⟨F, B, os, fun _ => False, o', os', rs.lent hl, hF, hB, fun _ z => z.elim, fun _ z => z.elim, h1, fun v F' H' S1 S2 ex r1 r2 dj w1 w2 n hn => ?_⟩
    exact q v F' H' S1 ex.pst r1 w1 fun b z => .inr ((n b (.inl z)).elim (fun z => z.elim) id)
  · cases e
section
variable {X : Cx} {k : Nat} {f : Addr} {fd : FuncData} {ps : List Str} {x : Str} {p pos : Pos} {e : Expr} {es : List Expr} {t : TA} {fn : Fun1} {fa : En → Option (List O)}
theorem xCall (F : FnOk X.prog X.w X.K X.mg X.base CX0 k f fd ps (Spg X.K X.mg fn)) (hr : Room k X.A) (hg : Gl X x) (hm : X.mg x = some (.ref f)) (hk : PySem.W.keepIn X.K (.ref f) = true) (hb : Binds X.K fd ps []) (ha : PAX X (e :: es) t fa)
    (hdb : (x == ("__debug__" : Str)) = false := by decide) (he : starEach (e :: es) X.env = (false, eval e X.env) :: starEach es X.env := by rfl) (hpl : (backTo pos (starEach es X.env)).any (·.1) = false := by rfl) :
    PX X (.Call (.Name x p) (e :: es) [] pos) (tCall (Spg X.K X.mg fn) [] E0 t) (xL (gCall fn) fa) :=
  ⟨pe_call F hr hg hm hk hb .nil pass0 ha.run hdb he hpl, esem_cb (r := fun vs H Q => Spg X.K X.mg fn (vs ++ []) H Q E0) rsem_call ha.sem⟩
end
end Tw
/-! Core7: what is walked, targets, comprehensions. -/
namespace Tw
open PySem PySem.Spec L2

section
variable (K : PySem.W.Frag) (G : Str → Option Value)
/-- what is walked, from an expression's state -/
def ISem (wi : TI) (f : En → Option (List O)) : Prop := ∀ (F B : Hp) (σ : L2.St) (ρ : En) (H : Hp) (os : List O) (Rr : It → Hp → Prop), SV K G F B σ ρ → Same F H → Same B H → f ρ = some os →
  (∀ (F' H' : Hp) (J : It) (Gd : Hp → Prop) (Y : Nat → Hp → V → Hp → Prop), Pst F H F' H' → Walk J os.length Gd Y → (∀ F2 H2, Same F' F2 → Same F2 H2 → Same B H2 → Gd H2) →
    (∀ i F2 H2 x H3 o, Same F' F2 → Same F2 H2 → Same B H2 → os[i]? = some o → Y i H2 x H3 → ∃ F3, Pst F2 H2 F3 H3 ∧ OV K G F3 B x o) → Rr J H') → wi σ H Rr
abbrev RI := List V → Hp → (It → Hp → Prop) → Prop
/-- .. from the values of its arguments -/
def IRSem (ri : RI) (g : List O → Option (List O)) : Prop := ∀ (F B H : Hp) (vs : List V) (os : List O) (S : Rg) (its : List O) (Rr : It → Hp → Prop), Same F H → Same B H → ORs K G F B H vs os S → os.all O.lent = true → g os = some its →
  (∀ (J : It) (Gd : Hp → Prop) (Y : Nat → Hp → V → Hp → Prop), Walk J its.length Gd Y → (∀ F2 H2, Same F F2 → Same F2 H2 → Same B H2 → Gd H2) →
    (∀ i F2 H2 x H3 o, Same F F2 → Same F2 H2 → Same B H2 → its[i]? = some o → Y i H2 x H3 → ∃ F3, Pst F2 H2 F3 H3 ∧ OV K G F3 B x o) → Rr J H) → ri vs H Rr
end
def wiOf (ta : TA) (ri : RI) : TI := fun σ H R => ta σ H fun vs H1 => ri vs H1 R
structure PJX (X : Cx) (tg iter : Expr) (ta : TA) (ri : RI) (fa : En → Option (List O)) (g : List O → Option (List O)) : Prop where
  run : PI X tg iter (wiOf ta ri)
  asem : ASem X.K X.mg ta fa
  rsem : IRSem X.K X.mg ri g
def xJ (fa : En → Option (List O)) (g : List O → Option (List O)) : En → Option (List O) := fun ρ => (fa ρ).bind fun os => if os.all O.lent then g os else none
theorem isem_of {K G} {ta : TA} {ri : RI} {fa : En → Option (List O)} {g : List O → Option (List O)} (ha : ASem K G ta fa) (hr : IRSem K G ri g) : ISem K G (wiOf ta ri) (xJ fa g) := by
  intro F B σ ρ H os Rr hσ hF hB e q
  unfold xJ at e
  obtain ⟨oa, ea, e⟩ := Option.bind_eq_some_iff.mp e
  split at e
  · rename_i hl
    refine ha F B σ ρ H oa _ hσ hF hB ea fun vs F1 H1 S p1 r w n => ?_
    exact hr F1 B H1 vs oa S os Rr p1.fs (p1.b hB) r hl e fun J Gd Y => q F1 H1 J Gd Y p1
  · cases e
/-- one expression as an argument list -/
def t1A (tl : TE) : TA := fun σ H Q => tl σ H fun x H1 => Q [x] H1
def a1 (f : En → Option O) : En → Option (List O) := fun ρ => (f ρ).map fun o => [o]
theorem asem_one {K G} {tl : TE} {f : En → Option O} (h : ESem K G tl f) : ASem K G (t1A tl) (a1 f) := by
  intro F B σ ρ H o Q hσ hF hB e q
  unfold a1 at e
  obtain ⟨oa, ea, e⟩ := Option.map_eq_some_iff.mp e
  subst e
  exact h F B σ ρ H oa _ hσ hF hB ea fun v F1 H1 S p r w n => q [v] F1 H1 S p (.cons (S1 := S) (S2 := fun _ => False) r .nil (fun _ _ z => z) (fun _ z => z) fun _ z => z.elim) w n

/-! ### lists and tuples -/
def gSeq : List O → Option (List O)
  | [.fr (.list ds)] => some (ds.map .fr)
  | [.fr (.tup ds)] => some (ds.map .fr)
  | [.bo (.list ds)] => some (ds.map mkbo)
  | [.bo (.tup ds)] => some (ds.map mkbo)
  | _ => none
@[simp] theorem gSeq_frl (ds) : gSeq [.fr (.list ds)] = some (ds.map .fr) := rfl
@[simp] theorem gSeq_frt (ds) : gSeq [.fr (.tup ds)] = some (ds.map .fr) := rfl
@[simp] theorem gSeq_bol (ds) : gSeq [.bo (.list ds)] = some (ds.map mkbo) := rfl
@[simp] theorem gSeq_bot (ds) : gSeq [.bo (.tup ds)] = some (ds.map mkbo) := rfl
def rSeq (K : PySem.W.Frag) : RI := fun vs H1 R => ∃ a, vs = [.ref a] ∧ (((∃ xs, SqL K H1 a xs) ∧ R (Itl K a) H1) ∨ ((∃ xs, SqT K H1 a xs) ∧ R (Itt K a) H1))
theorem pi_seq {X : Cx} {tg l : Expr} {tl : TE} (hl : PE X l tl) : PI X tg l (wiOf (t1A tl) (rSeq X.K)) := by
  refine ⟨fun pins s σ H R I h => ?_⟩
  have h : tl σ H fun x H1 => rSeq X.K [x] H1 R := h
  refine thn (hl.run pins s σ H _ I h) fun v s1 ⟨x, H1, I1, r1, q1⟩ => ?_
  obtain ⟨a, e, q⟩ := q1
  cases e
  cases r1
  rcases q with ⟨⟨xs, hq⟩, q⟩ | ⟨⟨xs, hq⟩, q⟩
  · obtain ⟨its, rv, p, hz⟩ := I1.list hq
    refine wpAny_pyIter_list p.isList ?_
    refine ⟨s1.heap.objs.size, [s1.heap.objs.size], _, _, H1, rfl, I1.kept (t' := s1.toks) fun b o e => Heap.get?_push_of_some _ e, turn_list a _, ⟨_, Heap.get?_push_size _ rfl, rfl, rfl⟩, fun b hb => ?_, q⟩
    have e : b = s1.heap.objs.size := by simpa using hb
    subst e
    exact I1.fpOk (Nat.le_refl _) (I1.hok.fresh (Nat.le_refl _))
  · obtain ⟨its, rv, p, hz⟩ := I1.tuple hq
    refine wpAny_pyIter_tuple (show s1.heap.IsTuple a its.toArray from p) ?_
    refine ⟨s1.heap.objs.size, [s1.heap.objs.size], _, _, H1, rfl, I1.kept (t' := s1.toks) fun b o e => Heap.get?_push_of_some _ e, turn_tuple a _, ⟨_, Heap.get?_push_size _ rfl, rfl, rfl⟩, fun b hb => ?_, q⟩
    have e : b = s1.heap.objs.size := by simpa using hb
    subst e
    exact I1.fpOk (Nat.le_refl _) (I1.hok.fresh (Nat.le_refl _))
section
variable {K : PySem.W.Frag} {G : Str → Option Value} {F B H : Hp}
theorem OV.mkbo {v : V} {d : D} (h : R K G B v d) : OV K G F B v (mkbo d) := by
  unfold Tw.mkbo
  split
  · rename_i l; exact R.of_leaf h l
  · exact h
theorem Rs.frs {vs : List V} {ds : List D} (h : Rs K G F vs ds) {i : Nat} {o : O} {x : V} (e : (ds.map O.fr)[i]? = some o) (hx : vs[i]? = some x) : OV K G F B x o := by
  rw [List.getElem?_map] at e
  obtain ⟨d, h1, rfl⟩ := Option.map_eq_some_iff.mp e
  obtain ⟨v, h2, h3⟩ := h.get h1
  rw [hx] at h2
  cases h2
  exact h3
theorem Rs.bos {vs : List V} {ds : List D} (h : Rs K G B vs ds) {i : Nat} {o : O} {x : V} (e : (ds.map Tw.mkbo)[i]? = some o) (hx : vs[i]? = some x) : OV K G F B x o := by
  rw [List.getElem?_map] at e
  obtain ⟨d, h1, rfl⟩ := Option.map_eq_some_iff.mp e
  obtain ⟨v, h2, h3⟩ := h.get h1
  rw [hx] at h2
  cases h2
  exact OV.mkbo h3
theorem gSeq_cases {o os : List O} (e : gSeq o = some os) : (∃ ds, o = [.fr (.list ds)] ∧ os = ds.map .fr) ∨ (∃ ds, o = [.fr (.tup ds)] ∧ os = ds.map .fr) ∨ (∃ ds, o = [.bo (.list ds)] ∧ os = ds.map mkbo) ∨ ∃ ds, o = [.bo (.tup ds)] ∧ os = ds.map mkbo := by
  unfold gSeq at e
  split at e
  · cases e; exact .inl ⟨_, rfl, rfl⟩
  · cases e; exact .inr (.inl ⟨_, rfl, rfl⟩)
  · cases e; exact .inr (.inr (.inl ⟨_, rfl, rfl⟩))
  · cases e; exact .inr (.inr (.inr ⟨_, rfl, rfl⟩))
  · cases e
theorem irsem_seq : IRSem K G (rSeq K) gSeq := by
  intro F B H vs os S its Rr hF hB rs hl e q
  rcases gSeq_cases e with ⟨ds, rfl, rfl⟩ | ⟨ds, rfl, rfl⟩ | ⟨ds, rfl, rfl⟩ | ⟨ds, rfl, rfl⟩
  · obtain ⟨v, rfl, r⟩ := rs.one
    cases r with
    | fr r =>
      obtain ⟨a, vs, rfl, hs, t⟩ := r.list_inv
      refine ⟨a, rfl, .inl ⟨⟨vs, .inl (Rd.same hF hs)⟩, q _ (fun H => SqL K H a vs) (YAt vs) ?_ (fun F2 H2 k1 k2 k3 => .inl (Rd.same (k1.trans k2) hs)) fun i F2 H2 x H3 o k1 k2 k3 eo y => ?_⟩⟩
      · rw [List.length_map, ← t.length]; exact walk_list
      · obtain ⟨rfl, hx⟩ := y
        exact ⟨F2, Pst.refl k2, OV.mono k1 (t.frs eo hx)⟩
  · obtain ⟨v, rfl, r⟩ := rs.one
    cases r with
    | fr r =>
      obtain ⟨a, vs, rfl, hs, t⟩ := r.tup_inv
      refine ⟨a, rfl, .inr ⟨⟨vs, SqT.same hF hs⟩, q _ (fun H => SqT K H a vs) (YAt vs) ?_ (fun F2 H2 k1 k2 k3 => SqT.same (k1.trans k2) hs) fun i F2 H2 x H3 o k1 k2 k3 eo y => ?_⟩⟩
      · rw [List.length_map, ← t.length]; exact walk_tup
      · obtain ⟨rfl, hx⟩ := y
        exact ⟨F2, Pst.refl k2, OV.mono k1 (t.frs eo hx)⟩
  · obtain ⟨v, rfl, r⟩ := rs.one
    cases r with
    | bo r =>
      obtain ⟨a, vs, rfl, hs, t⟩ := r.list_inv
      refine ⟨a, rfl, .inl ⟨⟨vs, .inl (Rd.same hB hs)⟩, q _ (fun H => SqL K H a vs) (YAt vs) ?_ (fun F2 H2 k1 k2 k3 => .inl (Rd.same k3 hs)) fun i F2 H2 x H3 o k1 k2 k3 eo y => ?_⟩⟩
      · rw [List.length_map, ← t.length]; exact walk_list
      · obtain ⟨rfl, hx⟩ := y
        exact ⟨F2, Pst.refl k2, t.bos eo hx⟩
  · obtain ⟨v, rfl, r⟩ := rs.one
    cases r with
    | bo r =>
      obtain ⟨a, vs, rfl, hs, t⟩ := r.tup_inv
      refine ⟨a, rfl, .inr ⟨⟨vs, SqT.same hB hs⟩, q _ (fun H => SqT K H a vs) (YAt vs) ?_ (fun F2 H2 k1 k2 k3 => SqT.same k3 hs) fun i F2 H2 x H3 o k1 k2 k3 eo y => ?_⟩⟩
      · rw [List.length_map, ← t.length]; exact walk_tup
      · obtain ⟨rfl, hx⟩ := y
        exact ⟨F2, Pst.refl k2, t.bos eo hx⟩
end
theorem jSeq {X : Cx} {tg l : Expr} {tl : TE} {f : En → Option O} (h : PX X l tl f) : PJX X tg l (t1A tl) (rSeq X.K) (a1 f) gSeq := ⟨pi_seq h.run, asem_one h.sem, irsem_seq⟩

/-! ### range -/
/-- lo, lo + 1, .. below hi -/
def rng (lo hi : Int) : List Int := (List.range (hi - lo).toNat).map fun i => lo + (i : Nat)
def OKR (i : Int) : Bool := Nat.blt i.natAbs 4611686018427387904
def gRng : List O → Option (List O)
  | [a] => match a.rd with
    | .int j => if OKR j then some ((rng 0 j).map fun i => .fr (.int i)) else none
    | _ => none
  | [a, b] => match a.rd, b.rd with
    | .int i, .int j => if OKR i && OKR j then some ((rng i j).map fun i => .fr (.int i)) else none
    | _, _ => none
  | _ => none
def xRng (f : En → Option (List O)) : En → Option (List O) := fun ρ => (f ρ).bind gRng
@[simp] theorem rng_length (lo hi : Int) : (rng lo hi).length = (hi - lo).toNat := by simp [rng]
theorem rng_get (lo hi : Int) (i : Nat) (h : i < (hi - lo).toNat) : (rng lo hi)[i]? = some (lo + (i : Nat)) := by
  unfold rng; rw [List.getElem?_map, List.getElem?_range h]; rfl
theorem mem_rng {lo hi x : Int} : x ∈ rng lo hi ↔ lo ≤ x ∧ x < hi := by
  unfold rng
  simp only [List.mem_map, List.mem_range]
  constructor
  · rintro ⟨i, h, rfl⟩; omega
  · rintro ⟨h1, h2⟩; exact ⟨(x - lo).toNat, by omega, by omega⟩
theorem OKR_ok {i : Int} (h : OKR i = true) : -(2 ^ 62) ≤ i ∧ i < 2 ^ 62 := by
  have h2 : i.natAbs < 4611686018427387904 := by unfold OKR at h; exact Nat.blt_eq.mp h
  omega
def rRng1 : RI := fun vs H1 R => ∃ j : Int, vs = [.int j] ∧ -(2 ^ 62) ≤ j ∧ j < 2 ^ 62 ∧ R (Itr 0 j.toNat) H1
def rRng2 : RI := fun vs H1 R => ∃ i j : Int, vs = [.int i, .int j] ∧ (-(2 ^ 62) ≤ i ∧ i < 2 ^ 62 ∧ -(2 ^ 62) ≤ j ∧ j < 2 ^ 62) ∧ R (Itr i (j - i).toNat) H1
def gRng1 : List O → Option (List O)
  | [a] => gRng [a]
  | _ => none
def gRng2 : List O → Option (List O)
  | [a, b] => gRng [a, b]
  | _ => none
section
variable {K : PySem.W.Frag} {G : Str → Option Value}
theorem rng_fin {F B H : Hp} {lo hi : Int} {Rr : It → Hp → Prop}
    (q : ∀ (J : It) (Gd : Hp → Prop) (Y : Nat → Hp → V → Hp → Prop), Walk J ((rng lo hi).map fun i => O.fr (.int i)).length Gd Y → (∀ F2 H2, Same F F2 → Same F2 H2 → Same B H2 → Gd H2) →
    (∀ i F2 H2 x H3 o, Same F F2 → Same F2 H2 → Same B H2 → ((rng lo hi).map fun i => O.fr (.int i))[i]? = some o → Y i H2 x H3 → ∃ F3, Pst F2 H2 F3 H3 ∧ OV K G F3 B x o) → Rr J H) : Rr (Itr lo (hi - lo).toNat) H := by
  refine q _ (fun _ => True) (YFn fun i => .int (lo + (i : Nat))) ?_ (fun _ _ _ _ _ => trivial) fun i F2 H2 x H3 o k1 k2 k3 eo y => ?_
  · rw [List.length_map, rng_length]; exact walk_range
  · obtain ⟨rfl, rfl⟩ := y
    have hi' := (List.getElem?_eq_some_iff.mp eo).1
    rw [List.length_map, rng_length] at hi'
    rw [List.getElem?_map, rng_get _ _ _ hi'] at eo
    cases eo
    exact ⟨F2, Pst.refl k2, .int _⟩
theorem irsem_rng1 : IRSem K G rRng1 gRng1 := by
  intro F B H vs os S its Rr hF hB rs hl e q
  unfold gRng1 at e
  split at e
  · rename_i a
    obtain ⟨v, rfl, r1⟩ := rs.one
    have q1 := r1.all hF hB
    unfold gRng at e
    simp only at e
    split at e
    · rename_i j hj
      rw [hj] at q1
      cases q1.int_inv
      split at e
      · rename_i ho
        cases e
        refine ⟨j, rfl, (OKR_ok ho).1, (OKR_ok ho).2, ?_⟩
        have := rng_fin (K := K) (G := G) (F := F) (B := B) (H := H) (lo := 0) (hi := j) (Rr := Rr) q
        simpa using this
      · cases e
    · cases e
  · cases e
theorem irsem_rng2 : IRSem K G rRng2 gRng2 := by
  intro F B H vs os S its Rr hF hB rs hl e q
  unfold gRng2 at e
  split at e
  · rename_i a b
    obtain ⟨v, v2, S1, S2, rfl, r1, r2, _⟩ := rs.two
    have q1 := r1.all hF hB
    have q2 := r2.all hF hB
    unfold gRng at e
    simp only at e
    split at e
    · rename_i i j hi hj
      rw [hi] at q1
      rw [hj] at q2
      cases q1.int_inv
      cases q2.int_inv
      split at e
      · rename_i ho
        rw [Bool.and_eq_true] at ho
        cases e
        refine ⟨i, j, rfl, ⟨(OKR_ok ho.1).1, (OKR_ok ho.1).2, (OKR_ok ho.2).1, (OKR_ok ho.2).2⟩, ?_⟩
        exact rng_fin (K := K) (G := G) (F := F) (B := B) (H := H) (lo := i) (hi := j) (Rr := Rr) q
      · cases e
    · cases e
  · cases e
end
section
variable {X : Cx} {tg a b : Expr} {ta tb : TE} {fa fb : En → Option O} {p pos : Pos}
theorem jRng1 (hg : Gl X "range") (hm : X.mg "range" = none) (ha : PX X a ta fa) (hs : starEach [a] X.env = [(false, eval a X.env)] := by rfl) :
    PJX X tg (.Call (.Name "range" p) [a] [] pos) (tCons ta tNil) rRng1 (aCons fa aNil) gRng1 :=
  ⟨pi_range1 hg hm (pa_cons ha.run pa_nil hs) hs, asem_cons ha.sem asem_nil, irsem_rng1⟩
theorem jRng2 (hg : Gl X "range") (hm : X.mg "range" = none) (ha : PX X a ta fa) (hb : PX X b tb fb) (hs : starEach [a, b] X.env = [(false, eval a X.env), (false, eval b X.env)] := by rfl) (hs2 : starEach [b] X.env = [(false, eval b X.env)] := by rfl) :
    PJX X tg (.Call (.Name "range" p) [a, b] [] pos) (tCons ta (tCons tb tNil)) rRng2 (aCons fa (aCons fb aNil)) gRng2 :=
  ⟨pi_range2 hg hm (pa_cons ha.run (pa_cons hb.run pa_nil hs2) (by rw [hs, hs2])) hs hs2, asem_cons ha.sem (asem_cons hb.sem asem_nil), irsem_rng2⟩
end

/-! ### targets -/
abbrev Ups := List (Nat × O)
def setV (σ : L2.St) (ws : List (Nat × V)) : L2.St := ws.foldl (fun σ w => σ.set w.1 (some w.2)) σ
def setO (ρ : En) (us : Ups) : En := us.foldl (fun ρ w => ρ.set w.1 (some w.2)) ρ
@[simp] theorem setO_nil (ρ : En) : setO ρ [] = ρ := rfl
@[simp] theorem setO_cons (ρ : En) (w us) : setO ρ (w :: us) = setO (ρ.set w.1 (some w.2)) us := rfl
theorem setO_app (ρ : En) (us vs : Ups) : setO ρ (us ++ vs) = setO (setO ρ us) vs := by simp [setO]
theorem setV_app (ρ : L2.St) (us vs) : setV ρ (us ++ vs) = setV (setV ρ us) vs := by simp [setV]
section
variable (K : PySem.W.Frag) (G : Str → Option Value)
inductive Upd (F B : Hp) : List (Nat × V) → Ups → Prop
  | nil : Upd F B [] []
  | cons {i : Nat} {v : V} {o : O} {ws : List (Nat × V)} {us : Ups} : OV K G F B v o → Upd F B ws us → Upd F B ((i, v) :: ws) ((i, o) :: us)
inductive OVs (F B : Hp) : List V → List O → Prop
  | nil : OVs F B [] []
  | cons {v : V} {o : O} {ws : List V} {us : List O} : OV K G F B v o → OVs F B ws us → OVs F B (v :: ws) (o :: us)
def GSem (g : TG) (u : O → Option Ups) (ks : List Nat) : Prop := (∀ (F B : Hp) (v : V) (o : O) (σ : L2.St) (H : Hp) (us : Ups) (Q : L2.St → Hp → Prop), OV K G F B v o → Same F H → Same B H → u o = some us →
  (∀ ws, Upd K G F B ws us → Q (setV σ ws) H) → g v σ H Q) ∧ ∀ o us, u o = some us → us.map (·.1) = ks
def GsSem (g : TGs) (u : List O → Option Ups) (ks : List Nat) : Prop := (∀ (F B : Hp) (v : List V) (o : List O) (σ : L2.St) (H : Hp) (us : Ups) (Q : L2.St → Hp → Prop), OVs K G F B v o → Same F H → Same B H → u o = some us →
  (∀ ws, Upd K G F B ws us → Q (setV σ ws) H) → g v σ H Q) ∧ ∀ o us, u o = some us → us.map (·.1) = ks
end
structure PGX (X : Cx) (tg : Expr) (g : TG) (u : O → Option Ups) (ks : List Nat) : Prop where
  run : PG X tg g
  sem : GSem X.K X.mg g u ks
structure PGsX (X : Cx) (tg : List Expr) (g : TGs) (u : List O → Option Ups) (ks : List Nat) : Prop where
  run : PGs X tg g
  sem : GsSem X.K X.mg g u ks
theorem Upd.append {K G} {F B : Hp} : ∀ {ws ws' : List (Nat × V)} {us us' : Ups}, Upd K G F B ws us → Upd K G F B ws' us' → Upd K G F B (ws ++ ws') (us ++ us')
  | _, _, _, _, .nil, h => h
  | _, _, _, _, .cons a t, h => .cons a (t.append h)
def uN (i : Nat) : O → Option Ups := fun o => some [(i, o)]
def uNil : List O → Option Ups
  | [] => some []
  | _ => none
def uCons (u : O → Option Ups) (w : List O → Option Ups) : List O → Option Ups
  | o :: os => (u o).bind fun a => (w os).map fun b => a ++ b
  | [] => none
/-- a tuple's items -/
def uT (n : Nat) (w : List O → Option Ups) : O → Option Ups := fun o => match o with
  | .fr (.tup ds) => if ds.length = n then w (ds.map .fr) else none
  | .bo (.tup ds) => if ds.length = n then w (ds.map mkbo) else none
  | _ => none
section
variable {K : PySem.W.Frag} {G : Str → Option Value}
theorem gsem_name (i : Nat) : GSem K G (gName i) (uN i) [i] := by
  refine ⟨fun F B v o σ H us Q r hF hB e q => ?_, fun o us e => by cases e; rfl⟩
  cases e
  exact q [(i, v)] (.cons r .nil)
theorem gssem_nil : GsSem K G gNil uNil [] := by
  refine ⟨fun F B v o σ H us Q r hF hB e q => ?_, fun o us e => by unfold uNil at e; split at e <;> cases e; rfl⟩
  unfold uNil at e
  split at e
  · cases e
    cases r
    exact ⟨rfl, q [] .nil⟩
  · cases e
theorem gssem_cons {g : TG} {gs : TGs} {u : O → Option Ups} {w : List O → Option Ups} {ks ls : List Nat} (h : GSem K G g u ks) (h' : GsSem K G gs w ls) : GsSem K G (gCons g gs) (uCons u w) (ks ++ ls) := by
  refine ⟨fun F B v o σ H us Q r hF hB e q => ?_, fun o us e => ?_⟩
  · cases r with
    | nil => cases e
    | cons a t =>
      simp only [uCons] at e
      obtain ⟨x, e1, e⟩ := Option.bind_eq_some_iff.mp e
      obtain ⟨y, e2, e⟩ := Option.map_eq_some_iff.mp e
      subst e
      refine ⟨_, _, rfl, h.1 F B _ _ σ H x _ a hF hB e1 fun ws1 p1 => h'.1 F B _ _ _ H y _ t hF hB e2 fun ws2 p2 => ?_⟩
      rw [← setV_app]
      exact q _ (p1.append p2)
  · cases o with
    | nil => cases e
    | cons a t =>
      simp only [uCons] at e
      obtain ⟨x, e1, e⟩ := Option.bind_eq_some_iff.mp e
      obtain ⟨y, e2, e⟩ := Option.map_eq_some_iff.mp e
      subst e
      rw [List.map_append, h.2 _ _ e1, h'.2 _ _ e2]
theorem OVs.of_fr {F B : Hp} : ∀ {vs : List V} {ds : List D}, Rs K G F vs ds → OVs K G F B vs (ds.map .fr)
  | _, _, .nil => .nil
  | _, _, .cons a t => .cons a (OVs.of_fr t)
theorem OVs.of_bo {F B : Hp} : ∀ {vs : List V} {ds : List D}, Rs K G B vs ds → OVs K G F B vs (ds.map mkbo)
  | _, _, .nil => .nil
  | _, _, .cons a t => .cons (.mkbo a) (OVs.of_bo t)
theorem gsem_tup {gs : TGs} {w : List O → Option Ups} {ks : List Nat} {n : Nat} (h : GsSem K G gs w ks) : GSem K G (L2.gTup K n gs) (uT n w) ks := by
  refine ⟨fun F B v o σ H us Q r hF hB e q => ?_, fun o us e => ?_⟩
  · unfold uT at e
    split at e
    · rename_i ds
      split at e
      · rename_i hl
        obtain ⟨a, xs, rfl, hs, t⟩ := R.tup_inv r
        exact ⟨a, xs, rfl, SqT.same hF hs, by rw [t.length]; exact hl, h.1 F B _ _ σ H us Q (.of_fr t) hF hB e q⟩
      · cases e
    · rename_i ds
      split at e
      · rename_i hl
        obtain ⟨a, xs, rfl, hs, t⟩ := R.tup_inv r
        exact ⟨a, xs, rfl, SqT.same hB hs, by rw [t.length]; exact hl, h.1 F B _ _ σ H us Q (.of_bo t) hF hB e q⟩
      · cases e
    · cases e
  · unfold uT at e
    split at e
    · split at e
      · exact h.2 _ _ e
      · cases e
    · split at e
      · exact h.2 _ _ e
      · cases e
    · cases e
end
section
variable {X : Cx} {pos : Pos} {e : Expr} {es : List Expr}
theorem gN (i : Nat) {x : Str} (hN : X.N.Nodup) (hi : X.N[i]? = some x := by rfl) (hx : Loc X.env.scope x := by first | exact .inl rfl | exact .inr rfl) (hf : X.fn x = true ∨ X.env.scope.names.lookup x = some .local := by first | exact .inl rfl | exact .inr rfl) : PGX X (.Name x pos) (gName i) (uN i) [i] :=
  ⟨pg_name hN hi hx hf, gsem_name i⟩
theorem gsNil : PGsX X [] gNil uNil [] := ⟨pgs_nil, gssem_nil⟩
theorem gsCons {g : TG} {gs : TGs} {u : O → Option Ups} {w : List O → Option Ups} {ks ls : List Nat} (h : PGX X e g u ks) (h' : PGsX X es gs w ls) (hs : (assignEach (e :: es) X.env).map (·.2) = assign e X.env :: (assignEach es X.env).map (·.2) := by rfl) : PGsX X (e :: es) (gCons g gs) (uCons u w) (ks ++ ls) :=
  ⟨pgs_cons h.run h'.run hs, gssem_cons h.sem h'.sem⟩
theorem gT {gs : TGs} {w : List O → Option Ups} {ks : List Nat} {k n : Nat} (hc : X.calm = true) (h : PGsX X es gs w ks) (hn : (assignEach es X.env).length = n := by rfl) (hst : (assignEach es X.env).findIdx? (·.1) = none := by rfl) : PGX X (.Tuple es k pos) (L2.gTup X.K n gs) (uT n w) ks :=
  ⟨pg_tup hc h.run hn hst, gsem_tup h.sem⟩
end
end Tw
/-! Core8: comprehensions. -/
namespace Tw
open PySem PySem.Spec L2

def wipeO (ρ : En) : List Nat → En
  | [] => ρ
  | v :: vs => (wipeO ρ vs).set v none
@[simp] theorem wipeO_nil (ρ : En) : wipeO ρ [] = ρ := rfl
@[simp] theorem wipeO_cons (ρ : En) (v vs) : wipeO ρ (v :: vs) = (wipeO ρ vs).set v none := rfl
theorem wipeO_length (ρ : En) : ∀ vs, (wipeO ρ vs).length = ρ.length
  | [] => rfl
  | v :: vs => by simp [wipeO_length ρ vs]
theorem setV_length (ws : List (Nat × V)) : ∀ σ : L2.St, (setV σ ws).length = σ.length := by
  induction ws with
  | nil => intro σ; rfl
  | cons w ws ih => intro σ; show (setV (σ.set w.1 (some w.2)) ws).length = _; rw [ih]; simp
theorem setO_length (ws : Ups) : ∀ σ : En, (setO σ ws).length = σ.length := by
  induction ws with
  | nil => intro σ; rfl
  | cons w ws ih => intro σ; show (setO (σ.set w.1 (some w.2)) ws).length = _; rw [ih]; simp
section
variable {K : PySem.W.Frag} {G : Str → Option Value} {F F' B : Hp}
theorem SV.set {σ : L2.St} {ρ : En} (h : SV K G F B σ ρ) (i : Nat) {v : V} {o : O} (r : OV K G F B v o) : SV K G F B (σ.set i (some v)) (ρ.set i (some o)) := by
  refine ⟨fun j o' e => ?_, by simp [h.len]⟩
  by_cases hj : i = j
  · subst hj
    have hl : i < ρ.length := by
      have := (List.getElem?_eq_some_iff.mp e).1
      simpa using this
    rw [List.getElem?_set_self hl] at e
    cases e
    exact ⟨v, List.getElem?_set_self (by rw [← h.len]; exact hl), r⟩
  · rw [List.getElem?_set_ne hj] at e
    obtain ⟨w, h1, h2⟩ := h.at' j o' e
    exact ⟨w, by rw [List.getElem?_set_ne hj]; exact h1, h2⟩
theorem SV.drop {σ : L2.St} {ρ : En} (h : SV K G F B σ ρ) (i : Nat) : SV K G F B (σ.set i none) (ρ.set i none) := by
  refine ⟨fun j o' e => ?_, by simp [h.len]⟩
  by_cases hj : i = j
  · subst hj
    have hl : i < ρ.length := by
      have := (List.getElem?_eq_some_iff.mp e).1
      simpa using this
    rw [List.getElem?_set_self hl] at e
    cases e
  · rw [List.getElem?_set_ne hj] at e
    obtain ⟨w, h1, h2⟩ := h.at' j o' e
    exact ⟨w, by rw [List.getElem?_set_ne hj]; exact h1, h2⟩
theorem SV.wipe {σ : L2.St} {ρ : En} (h : SV K G F B σ ρ) : ∀ vs, SV K G F B (L2.wipe σ vs) (wipeO ρ vs)
  | [] => h
  | v :: vs => (h.wipe vs).drop v
theorem Upd.mono (hF : Same F F') {ws : List (Nat × V)} {us : Ups} (h : Upd K G F B ws us) : Upd K G F' B ws us := by
  induction h with
  | nil => exact .nil
  | cons a _ ih => exact .cons (OV.mono hF a) ih
theorem Upd.keys {ws : List (Nat × V)} {us : Ups} (h : Upd K G F B ws us) : ws.map (·.1) = us.map (·.1) := by
  induction h with
  | nil => rfl
  | cons a _ ih => simp [ih]
theorem SV.sets {ws : List (Nat × V)} {us : Ups} (u : Upd K G F B ws us) : ∀ {σ : L2.St} {ρ : En}, SV K G F B σ ρ → SV K G F B (setV σ ws) (setO ρ us) := by
  induction u with
  | nil => intro σ ρ h; exact h
  | cons a _ ih => intro σ ρ h; exact ih (h.set _ a)
end
theorem wipe_in {σ : L2.St} {i : Nat} : ∀ {vs : List Nat}, i ∈ vs → i < σ.length → (L2.wipe σ vs)[i]? = some none
  | v :: vs, h, hl => by
    unfold L2.wipe
    by_cases e : v = i
    · subst e
      rw [List.getElem?_set_self (by rw [wipe_length]; exact hl)]
    · rw [List.getElem?_set_ne e]
      exact wipe_in ((List.mem_cons.mp h).resolve_left fun z => e z.symm) hl
theorem wipe_ext {σ τ : L2.St} {vs : List Nat} (hl : σ.length = τ.length) (h : ∀ i, i ∉ vs → σ[i]? = τ[i]?) : L2.wipe σ vs = L2.wipe τ vs := by
  apply List.ext_getElem?
  intro i
  by_cases hi : i ∈ vs
  · by_cases hb : i < σ.length
    · rw [wipe_in hi hb, wipe_in hi (by omega)]
    · rw [List.getElem?_eq_none (by rw [wipe_length]; omega), List.getElem?_eq_none (by rw [wipe_length]; omega)]
  · rw [wipe_out hi, wipe_out hi]; exact h i hi
theorem setV_out {ws : List (Nat × V)} : ∀ {σ : L2.St} {i : Nat}, i ∉ ws.map (·.1) → (setV σ ws)[i]? = σ[i]? := by
  induction ws with
  | nil => intro σ i _; rfl
  | cons w ws ih =>
    intro σ i h
    simp only [List.map_cons, List.mem_cons, not_or] at h
    show (setV (σ.set w.1 (some w.2)) ws)[i]? = _
    rw [ih h.2, List.getElem?_set_ne fun e => h.1 e.symm]
theorem wipe_set {σ : L2.St} {vs : List Nat} {ws : List (Nat × V)} (h : ∀ k ∈ ws.map (·.1), k ∈ vs) : L2.wipe (setV (L2.wipe σ vs) ws) vs = L2.wipe σ vs := by
  refine wipe_ext (by rw [setV_length, wipe_length]) fun i hi => ?_
  rw [setV_out fun z => hi (h i z), wipe_out hi]

/-! ### the tests of a clause -/
structure PTsX (X : Cx) (ifs : List Expr) (t : TT) (f : En → Option Bool) : Prop where
  run : PTs X ifs t
  sem : TSem X.K X.mg t f
def tYesF : En → Option Bool := fun _ => some true
theorem tsNil {X : Cx} : PTsX X [] tYes tYesF := ⟨pts_nil, fun F B σ ρ H o Q hσ hF hB e q => by cases e; exact q F H (Pst.refl hF)⟩
theorem tsOne {X : Cx} {c : Expr} {t : TT} {f : En → Option Bool} (h : PTX X c t f) : PTsX X [c] t f := ⟨pts_one h.run, h.sem⟩

/-! ### [elt for tg in iter if ..] -/
def lcGo (u : O → Option Ups) (ft : En → Option Bool) (fe : En → Option O) (ρ : En) : List O → Option (List O)
  | [] => some []
  | o :: os => (u o).bind fun us => (ft (setO ρ us)).bind fun b => if b then (fe (setO ρ us)).bind fun x => (lcGo u ft fe ρ os).map (x :: ·) else lcGo u ft fe ρ os
def xLc (fi : En → Option (List O)) (u : O → Option Ups) (ft : En → Option Bool) (fe : En → Option O) (vs : List Nat) : En → Option O := fun ρ =>
  (fi ρ).bind fun os => if os.length ≤ LINE then (lcGo u ft fe (wipeO ρ vs) os).map O.list else none
section
variable {K : PySem.W.Frag} {G : Str → Option Value}
theorem Same.upd_out {H H' : Hp} {p : Addr} {u : HO} (s : Same H H') (hp : H p = none) : Same H (upd H' p u) := fun b o e => by
  rw [upd_ne (ne_of_none e hp)]; exact s _ _ e
theorem esem_lc {wi : TI} {g : TG} {tt : TT} {te : TE} {vs ks : List Nat} {fi : En → Option (List O)} {u : O → Option Ups} {ft : En → Option Bool} {fe : En → Option O}
    (hi : ISem K G wi fi) (hg : GSem K G g u ks) (ht : TSem K G tt ft) (he : ESem K G te fe) (hk : ∀ k ∈ ks, k ∈ vs) : ESem K G (tLc wi g tt te vs) (xLc fi u ft fe vs) := by
  intro F B σ ρ H o Q hσ hF hB e q
  unfold xLc at e
  obtain ⟨os, ei, e⟩ := Option.bind_eq_some_iff.mp e
  split at e
  · rename_i hlen
    obtain ⟨rs, er, e⟩ := Option.map_eq_some_iff.mp e
    subst e
    refine hi F B σ ρ H os _ hσ hF hB ei fun F1 H1 J Gd Y p1 W stay yl => ?_
    intro D hD
    have hB1 := p1.b hB
    have hFD : F1 D = none := p1.fs.free hD
    have hBD : B D = none := hB1.free hD
    refine lc_it W (fun i Hc => ∃ F2 S acc don rest, Hc D = some (.lst acc) ∧ Same H1 Hc ∧ Same F1 F2 ∧ Same F2 Hc ∧ F2 D = none ∧ (∀ b, F2 b ≠ none → F1 b ≠ none ∨ H1 b = none) ∧
      ORs K G F2 B Hc acc don S ∧ ¬ S D ∧ Own F2 Hc S ∧ (∀ b, S b → H1 b = none) ∧ lcGo u ft fe (wipeO ρ vs) (os.drop i) = some rest ∧ rs = don ++ rest ∧ acc.length ≤ i) ?_ ?_ ?_ ?_
    · exact ⟨F1, fun _ => False, [], [], rs, upd_same, new_same hD, Same.refl _, Same.upd_out p1.fs hFD, hFD, fun b z => .inl z, .nil, fun z => z, fun _ z => z.elim, fun _ z => z.elim, by simpa using er, rfl, Nat.le_refl _⟩
    · rintro i Hc _ ⟨F2, S, acc, don, rest, h1, h2, h3, h4, _⟩
      exact stay F2 Hc h3 h4 (hB1.trans h2)
    · rintro i x Hc H2 hi' ⟨F2, S, acc, don, rest, h1, h2, h3, h4, h5, h6, h7, h8, h9, h10, h11, h12, h13⟩ y
      have eo : os[i]? = some os[i] := List.getElem?_eq_getElem hi'
      obtain ⟨F3, p3, r3⟩ := yl i F2 Hc x H2 os[i] h3 h4 (hB1.trans h2) eo y
      rw [List.drop_eq_getElem_cons hi'] at h11
      simp only [lcGo] at h11
      obtain ⟨us, eu, h11⟩ := Option.bind_eq_some_iff.mp h11
      obtain ⟨b, eb, h11⟩ := Option.bind_eq_some_iff.mp h11
      have b3 : Same B H2 := (hB1.trans h2).trans p3.same
      refine hg.1 F3 B x os[i] _ H2 us _ r3 p3.fs b3 eu fun ws hw => ?_
      refine ⟨wipe_set fun k hk' => hk k (by rw [hw.keys, hg.2 _ _ eu] at hk'; exact hk'), ?_⟩
      have sv : SV K G F3 B (setV (L2.wipe σ vs) ws) (setO (wipeO ρ vs) us) := ((hσ.mono (p1.fm.trans (h3.trans p3.fm))).wipe vs).sets hw
      refine ht F3 B _ _ H2 b _ sv p3.fs b3 eb fun F4 H4 p4 => ?_
      have p24 := p3.trans p4
      have hD4 : H4 D = some (.lst acc) := p24.same _ _ h1
      have out : ∀ {Fx Hx : Hp}, Pst F2 Hc Fx Hx → Fx D = none := fun {Fx Hx} p => by
        cases z : Fx D with
        | none => rfl
        | some w =>
          rcases p.nw D (by rw [z]; simp) with y | y
          · exact absurd h5 y
          · rw [h1] at y; cases y
      cases b with
      | false =>
        simp only [Bool.false_eq_true, if_false] at h11 ⊢
        exact ⟨F4, S, acc, don, rest, hD4, h2.trans p24.same, h3.trans p24.fm, p24.fs, out p24, fun b z => (p24.nw b z).elim (h6 b) fun z => .inr (h2.free z), h7.mono p24.fm (Same.refl _) (fun b w _ e => p24.same _ _ e), h8, h9.mono p24, h10, h11, h12, by omega⟩
      | true =>
        simp only [if_true] at h11 ⊢
        obtain ⟨xo, ex, h11⟩ := Option.bind_eq_some_iff.mp h11
        obtain ⟨rest', er', h11⟩ := Option.map_eq_some_iff.mp h11
        subst h11
        refine he F4 B _ _ H4 xo _ (sv.mono p4.fm) p4.fs (p4.b b3) ex fun v F5 H5 S5 p5 r5 w5 n5 => ?_
        have p25 := p24.trans p5
        have hD5 : H5 D = some (.lst acc) := p25.same _ _ h1
        have oD := out p25
        have nS5 : ¬ S5 D := fun z => by have := n5 D z; rw [hD4] at this; cases this
        have k5 : ∀ (Hx : Hp) (u : HO) (b : Addr), b ≠ D → (upd Hx D u) b = Hx b := fun Hx u b hb => upd_ne hb
        refine ⟨acc, hD5, ?_, F5, fun b => S b ∨ S5 b, acc ++ [v], don ++ [xo], rest', upd_same, Same.upd_out (h2.trans p25.same) hD, h3.trans p25.fm, Same.upd_out p25.fs oD, oD, fun b z => (p25.nw b z).elim (h6 b) fun z => .inr (h2.free z), ?_, ?_, ?_, ?_, er', by rw [h12, List.append_assoc]; rfl, by rw [List.length_append]; simp; omega⟩
        · have : sizeLine = LINE := line_eq
          omega
        · refine ORs.append (h7.mono p25.fm (Same.refl _) fun b w z e => ?_) (.cons (S1 := S5) (S2 := fun _ => False) (r5.mono (Same.refl _) (Same.refl _) fun b w z e => ?_) .nil (fun _ _ z => z) (fun _ z => z) fun _ z => z.elim) fun b z z' => ?_
          · rw [k5 _ _ _ (fun e => h8 (e ▸ z))]; exact p25.same _ _ e
          · rw [k5 _ _ _ (fun e => nS5 (e ▸ z))]; exact e
          · exact (h9 b z).1 (p24.same.free (n5 b z'))
        · rintro (z | z)
          · exact h8 z
          · exact nS5 z
        · rintro b (z | z)
          · have := (h9.mono p25) b z
            exact ⟨by rw [k5 _ _ _ (fun e => h8 (e ▸ z))]; exact this.1, this.2⟩
          · exact ⟨by rw [k5 _ _ _ (fun e => nS5 (e ▸ z))]; exact (w5 b z).1, (w5 b z).2⟩
        · rintro b (z | z)
          · exact h10 b z
          · exact (h2.trans p24.same).free (n5 b z)
    · rintro Hc ⟨F2, S, acc, don, rest, h1, h2, h3, h4, h5, h6, h7, h8, h9, h10, h11, h12, h13⟩
      rw [List.drop_of_length_le (Nat.le_refl _)] at h11
      simp only [lcGo, Option.some.injEq] at h11
      subst h11
      rw [List.append_nil] at h12
      subst h12
      refine q (.ref D) F2 Hc (fun b => b = D ∨ S b) ⟨p1.same.trans h2, p1.fm.trans h3, h4, fun b z => (h6 b z).elim (p1.nw b) fun z => .inr (p1.same.free z)⟩ (.list h1 (.inl rfl) h7 h8 fun _ z => .inr z) ?_ ?_
      · rintro b (rfl | z)
        · exact ⟨by rw [h1]; simp, h5⟩
        · exact h9 b z
      · rintro b (rfl | z)
        · exact p1.same.free hD
        · exact p1.same.free (h10 b z)
  · cases e
end
section
variable {X : Cx} {elt tg iter : Expr} {ifs : List Expr} {scope : Scope} {own : List (Str × Nat)} {pos : Pos} {ta : TA} {ri : RI} {fa : En → Option (List O)} {gi : List O → Option (List O)} {g : TG} {tt : TT} {te : TE} {u : O → Option Ups} {ks : List Nat} {ft : En → Option Bool} {fe : En → Option O}
theorem xComp (hc : X.calm = true) (hN : X.N.Nodup) (hi : PJX X tg iter ta ri fa gi) (ok : BlkOk X.N X.env.scope scope own)
    (hg : ∀ (s : Shared) (H : Hp) (C : Addr) (cl : List (Str × Addr)) (fp : List Addr), PGX (X.blk s H scope (compEnvC scope cl C X.env) fp) tg g u ks)
    (ht : ∀ (s : Shared) (H : Hp) (C : Addr) (cl : List (Str × Addr)) (fp : List Addr), PTsX (X.blk s H scope (compEnvC scope cl C X.env) fp) ifs tt ft)
    (he : ∀ (s : Shared) (H : Hp) (C : Addr) (cl : List (Str × Addr)) (fp : List Addr), PX (X.blk s H scope (compEnvC scope cl C X.env) fp) elt te fe) (hk : ∀ k ∈ ks, k ∈ own.map (·.2)) (hs : ∀ x, foldedSetIterable iter X.env x = pure x := by intro _; rfl) :
    PX X (.ListComp elt [⟨tg, iter, ifs, 0⟩] scope pos) (tLc (wiOf ta ri) g tt te (own.map (·.2))) (xLc (xJ fa gi) u ft fe (own.map (·.2))) :=
  ⟨pe_lc hc hN hi.run ok (fun s H C cl fp => (hg s H C cl fp).run) (fun s H C cl fp => (ht s H C cl fp).run) (fun s H C cl fp => (he s H C cl fp).run) hs,
   esem_lc (isem_of hi.asem hi.rsem) (hg X.s_0 X.H_0 0 [] []).sem (ht X.s_0 X.H_0 0 [] []).sem (he X.s_0 X.H_0 0 [] []).sem hk⟩
end
end Tw
/-! Core9: statements. -/
namespace Tw
open PySem PySem.Spec L2

/-! ### slots with owned values -/
section
variable (K : PySem.W.Frag) (G : Str → Option Value) (F B H : Hp)
inductive SE : L2.St → En → Rg → Prop
  | nil {S : Rg} : SE [] [] S
  | no {x : Option V} {σ : L2.St} {ρ : En} {S : Rg} : SE σ ρ S → SE (x :: σ) (none :: ρ) S
  | yes {v : V} {o : O} {σ : L2.St} {ρ : En} {S S1 S2 : Rg} : OR K G F B H v o S1 → SE σ ρ S2 → (∀ b, S1 b → S2 b → False) → (∀ b, S1 b → S b) → (∀ b, S2 b → S b) → SE (some v :: σ) (some o :: ρ) S
end
structure Oks (F B H : Hp) (S : Rg) : Prop where
  fs : Same F H
  bs : Same B H
  own : Own F H S
  nb : ∀ b, S b → B b = none
/-- how a value is seen while an expression runs -/
def O.vw : O → O
  | .fr d => .fr d
  | .bo d => .bo d
  | .list xs => .bo (.list (O.rds xs))
  | .tup xs => .bo (.tup (O.rds xs))
  | .dict xs => .bo (.dict xs)
  | .obj c fs => .bo (.obj c (O.rdf fs))
@[simp] theorem vw_fr (d) : O.vw (.fr d) = .fr d := rfl
@[simp] theorem vw_bo (d) : O.vw (.bo d) = .bo d := rfl
@[simp] theorem vw_list (d) : O.vw (.list d) = .bo (.list (O.rds d)) := rfl
@[simp] theorem vw_tup (d) : O.vw (.tup d) = .bo (.tup (O.rds d)) := rfl
@[simp] theorem vw_dict (d) : O.vw (.dict d) = .bo (.dict d) := rfl
@[simp] theorem vw_obj (c d) : O.vw (.obj c d) = .bo (.obj c (O.rdf d)) := rfl
def vw (ρ : En) : En := ρ.map fun o => o.map O.vw
@[simp] theorem vw_nil : vw [] = [] := rfl
@[simp] theorem vw_cons_some (o : O) (ρ : En) : vw (some o :: ρ) = some o.vw :: vw ρ := rfl
@[simp] theorem vw_cons_none (ρ : En) : vw (none :: ρ) = none :: vw ρ := rfl
/-- what is owned is not seen at all -/
def vr (ρ : En) : En := ρ.map fun o => match o with
  | some (.fr d) => some (.fr d)
  | some (.bo d) => some (.bo d)
  | _ => none
section
variable {K : PySem.W.Frag} {G : Str → Option Value} {F F' B B' H H' : Hp}
theorem SE.sub {σ : L2.St} {ρ : En} {S S' : Rg} (h : SE K G F B H σ ρ S) (s : ∀ b, S b → S' b) : SE K G F B H σ ρ S' := by
  induction h generalizing S' with
  | nil => exact .nil
  | no a ih => exact .no (ih s)
  | yes a b c d e _ => exact .yes a b c (fun x q => s x (d x q)) fun x q => s x (e x q)
theorem SE.mono (hF : Same F F') (hB : Same B B') {σ : L2.St} {ρ : En} {S : Rg} (h : SE K G F B H σ ρ S) : (∀ b u, S b → H b = some u → H' b = some u) → SE K G F' B' H' σ ρ S := by
  induction h with
  | nil => intro _; exact .nil
  | no a ih => intro hH; exact .no (ih hH)
  | yes a b c d e ih => intro hH; exact .yes (a.mono hF hB fun x u q => hH x u (d x q)) (ih fun x u q => hH x u (e x q)) c d e
theorem SE.len {σ : L2.St} {ρ : En} {S : Rg} (h : SE K G F B H σ ρ S) : ρ.length = σ.length := by
  induction h with
  | nil => rfl
  | no _ ih => simp [ih]
  | yes _ _ _ _ _ ih => simp [ih]
theorem OR.view {v : V} {o : O} {S : Rg} (hF : Same F H) (hB : Same B H) (r : OR K G F B H v o S) : OV K G F H v o.vw := by
  have q := r.all hF hB
  cases r with
  | fr r => exact r
  | bo r => show R K G H _ _; simpa using q
  | list h1 h2 h3 h4 h5 => show R K G H _ _; simpa using q
  | tup h1 h2 h3 h4 h5 => show R K G H _ _; simpa using q
  | dict h1 h2 h3 => show R K G H _ _; simpa using q
  | obj h1 h2 h3 h4 h5 => show R K G H _ _; simpa using q
theorem SE.view (hF : Same F H) (hB : Same B H) {σ : L2.St} {ρ : En} {S : Rg} (h : SE K G F B H σ ρ S) : SV K G F H σ (vw ρ) := by
  refine ⟨?_, by unfold vw; rw [List.length_map]; exact h.len⟩
  induction h with
  | nil => intro i o e; simp [vw] at e
  | no _ ih =>
    intro i o e
    cases i with
    | zero => simp [vw] at e
    | succ i => exact ih i o (by simpa [vw] using e)
  | yes a b _ _ _ ih =>
    intro i o e
    cases i with
    | zero =>
      simp [vw] at e
      subst e
      exact ⟨_, rfl, a.view hF hB⟩
    | succ i => exact ih i o (by simpa [vw] using e)
theorem SE.viewR {σ : L2.St} {ρ : En} {S : Rg} (h : SE K G F B H σ ρ S) : SV K G F B σ (vr ρ) := by
  refine ⟨?_, by unfold vr; rw [List.length_map]; exact h.len⟩
  induction h with
  | nil => intro i o e; simp [vr] at e
  | no _ ih =>
    intro i o e
    cases i with
    | zero => simp [vr] at e
    | succ i => exact ih i o (by simpa [vr] using e)
  | yes a b _ _ _ ih =>
    intro i o e
    cases i with
    | zero =>
      cases a with
      | fr r => simp [vr] at e; subst e; exact ⟨_, rfl, r⟩
      | bo r => simp [vr] at e; subst e; exact ⟨_, rfl, r⟩
      | _ => simp [vr] at e
    | succ i => exact ih i o (by simpa [vr] using e)
theorem SE.drop {σ : L2.St} {ρ : En} {S : Rg} (h : SE K G F B H σ ρ S) : ∀ i : Nat, SE K G F B H σ (ρ.set i none) S := by
  induction h with
  | nil => intro i; exact .nil
  | no a ih => intro i; cases i with
    | zero => exact .no a
    | succ i => exact .no (ih i)
  | yes a b c d e ih => intro i; cases i with
    | zero => exact (SE.no b).sub e
    | succ i => exact .yes a (ih i) c d e
theorem SE.get {σ : L2.St} {ρ : En} {S : Rg} (h : SE K G F B H σ ρ S) : ∀ {i : Nat} {o : O}, ρ[i]? = some (some o) → ∃ v S1 S2, σ[i]? = some (some v) ∧ OR K G F B H v o S1 ∧ SE K G F B H σ (ρ.set i none) S2 ∧ (∀ b, S1 b → S2 b → False) ∧ (∀ b, S1 b → S b) ∧ (∀ b, S2 b → S b) := by
  induction h with
  | nil => intro i o e; simp at e
  | no a ih =>
    intro i o e
    cases i with
    | zero => simp at e
    | succ i =>
      obtain ⟨v, S1, S2, h1, h2, h3, h4, h5, h6⟩ := ih (i := i) (o := o) (by simpa using e)
      exact ⟨v, S1, S2, by simpa using h1, h2, .no h3, h4, h5, h6⟩
  | @yes w o' σ' ρ' S T1 T2 a b c d e' ih =>
    intro i o e
    cases i with
    | zero =>
      simp at e; subst e
      exact ⟨w, T1, T2, rfl, a, .no b, c, d, e'⟩
    | succ i =>
      obtain ⟨v, S1, S2, h1, h2, h3, h4, h5, h6⟩ := ih (i := i) (o := o) (by simpa using e)
      exact ⟨v, S1, fun b => T1 b ∨ S2 b, by simpa using h1, h2, .yes a h3 (fun x y z => c x y (h6 x z)) (fun x y => .inl y) fun x y => .inr y, fun x y z => z.elim (fun z => c x z (h5 x y)) (h4 x y), fun x y => e' x (h5 x y), fun x y => y.elim (d x) fun y => e' x (h6 x y)⟩
/-- slot i gets a value of its own region -/
theorem SE.put {σ : L2.St} {ρ : En} {S : Rg} (h : SE K G F B H σ ρ S) : ∀ (i : Nat) {v : V} {o : O} {S1 : Rg}, OR K G F B H v o S1 → (∀ b, S1 b → S b → False) → SE K G F B H (σ.set i (some v)) (ρ.set i (some o)) (fun b => S1 b ∨ S b) := by
  induction h with
  | nil => intro i v o S1 r q; exact .nil
  | @no x σ ρ S a ih => intro i v o S1 r q; cases i with
    | zero => exact .yes r a q (fun _ z => .inl z) fun _ z => .inr z
    | succ i => exact .no (ih i r q)
  | @yes w o' σ' ρ' S T1 T2 a b c d e ih => intro i v o S1 r q; cases i with
    | zero => exact .yes r b (fun x y z => q x y (e x z)) (fun _ z => .inl z) fun x z => .inr (e x z)
    | succ i => exact .yes a (ih i r fun x y z => q x y (e x z)) (fun x y z => z.elim (fun z => q x z (d x y)) (c x y)) (fun x z => .inr (d x z)) fun x z => z.elim .inl fun z => .inr (e x z)
/-- .. the value being there already -/
theorem SE.putE {σ : L2.St} {ρ : En} {S : Rg} (h : SE K G F B H σ ρ S) {i : Nat} {v : V} {o : O} {S1 : Rg} (hv : σ[i]? = some (some v)) (r : OR K G F B H v o S1) (q : ∀ b, S1 b → S b → False) : SE K G F B H σ (ρ.set i (some o)) (fun b => S1 b ∨ S b) := by
  have := h.put i r q
  rwa [show σ.set i (some v) = σ from by
    apply List.ext_getElem?
    intro j
    by_cases e : i = j
    · subst e; rw [List.getElem?_set_self (List.getElem?_eq_some_iff.mp hv).1]; exact hv.symm
    · rw [List.getElem?_set_ne e]] at this
theorem SE.sets {ws : List (Nat × V)} {us : Ups} (u : Upd K G F B ws us) : ∀ {σ : L2.St} {ρ : En} {S : Rg}, SE K G F B H σ ρ S → SE K G F B H (setV σ ws) (setO ρ us) S := by
  induction u with
  | nil => intro σ ρ S h; exact h
  | @cons i v o ws us a _ ih =>
    intro σ ρ S h
    have := h.put i (a.or (H := H) (S := fun _ => False)) fun _ z => z.elim
    exact ih (this.sub fun b z => z.elim (fun z => z.elim) id)
end
theorem Ext.refl {F H : Hp} {S : Rg} (h : Same F H) : Ext F H S F H := ⟨fun _ _ e _ => e, fun _ h => h, Same.refl _, h, fun _ q => .inl q⟩
theorem Pst.ext {F H F' H' : Hp} {S : Rg} (p : Pst F H F' H') : Ext F H S F' H' := ⟨fun _ _ e _ => p.same _ _ e, fun _ h => Same.ne p.same h, p.fm, p.fs, fun b z => (p.nw b z).imp_right .inl⟩
theorem Ext.trans {F H F1 H1 F2 H2 : Hp} {S S1 : Rg} (a : Ext F H S F1 H1) (b : Ext F1 H1 S1 F2 H2) (s : ∀ b, S1 b → S b ∨ H b = none) : Ext F H S F2 H2 := by
  refine ⟨fun x u e n => b.keep x u (a.keep x u e n) fun z => (s x z).elim n fun y => (by rw [y] at e; cases e), fun x h => b.dom x (a.dom x h), a.fm.trans b.fm, b.fs, fun x z => ?_⟩
  rcases b.nw x z with y | y | y
  · exact a.nw x y
  · right; left
    cases e : H x with
    | none => rfl
    | some u => exact absurd y (a.dom x (by rw [e]; simp))
  · rcases s x y with y | y
    · exact .inr (.inr y)
    · exact .inr (.inl y)
theorem Ext.b {F H F' H' B : Hp} {S : Rg} (e : Ext F H S F' H') (o : Oks F B H S) : Same B H' := fun x u q => e.keep x u (o.bs x u q) fun z => by rw [o.nb x z] at q; cases q
theorem Own.sub {F H : Hp} {S S' : Rg} (w : Own F H S) (h : ∀ b, S' b → S b) : Own F H S' := fun b z => w b (h b z)

/-! ### expressions that may change what is owned -/
section
variable (K : PySem.W.Frag) (G : Str → Option Value)
def MSem (t : TE) (f : En → Option (O × En)) : Prop := ∀ (F B : Hp) (σ : L2.St) (ρ : En) (H : Hp) (S : Rg) (o : O) (ρ' : En) (Q : VK), SE K G F B H σ ρ S → Oks F B H S → f ρ = some (o, ρ') →
  (∀ v F' H' S' Sv, Ext F H S F' H' → SE K G F' B H' σ ρ' S' → OR K G F' B H' v o Sv → (∀ b, S' b → Sv b → False) → Oks F' B H' S' → Oks F' B H' Sv → (∀ b, S' b ∨ Sv b → S b ∨ H b = none) → Q v H') → t σ H Q
def MTSem (t : TT) (f : En → Option (Bool × En)) : Prop := ∀ (F B : Hp) (σ : L2.St) (ρ : En) (H : Hp) (S : Rg) (o : Bool) (ρ' : En) (Q : Bool → Hp → Prop), SE K G F B H σ ρ S → Oks F B H S → f ρ = some (o, ρ') →
  (∀ F' H' S', Ext F H S F' H' → SE K G F' B H' σ ρ' S' → Oks F' B H' S' → (∀ b, S' b → S b ∨ H b = none) → Q o H') → t σ H Q
end
structure PMX (X : Cx) (e : Expr) (t : TE) (f : En → Option (O × En)) : Prop where
  run : PE X e t
  sem : MSem X.K X.mg t f
structure PMTX (X : Cx) (e : Expr) (t : TT) (f : En → Option (Bool × En)) : Prop where
  run : PT X e t
  sem : MTSem X.K X.mg t f
def liftM (f : En → Option O) : En → Option (O × En) := fun ρ => (f (vw ρ)).bind fun o => if o.nb then some (o, ρ) else none
def liftT (f : En → Option Bool) : En → Option (Bool × En) := fun ρ => (f (vw ρ)).map fun b => (b, ρ)
section
variable {K : PySem.W.Frag} {G : Str → Option Value}
theorem msem_lift {t : TE} {f : En → Option O} (h : ESem K G t f) : MSem K G t (liftM f) := by
  intro F B σ ρ H S o ρ' Q hs ok e q
  unfold liftM at e
  obtain ⟨oa, ea, e⟩ := Option.bind_eq_some_iff.mp e
  split at e
  · rename_i hn
    obtain ⟨e1, e2⟩ := Prod.mk.inj (Option.some.inj e)
    subst e1 e2
    refine h F H σ (vw ρ) H oa Q (hs.view ok.fs ok.bs) ok.fs (Same.refl _) ea fun v F' H' Sv p r w n => ?_
    have w' : Own F' H' S := ok.own.mono p
    exact q v F' H' S Sv p.ext (hs.mono p.fm (Same.refl _) fun b u _ e => p.same _ _ e) (r.reB hn) (fun b z z' => (ok.own b z).1 (n b z')) ⟨p.fs, p.b ok.bs, w', ok.nb⟩ ⟨p.fs, p.b ok.bs, w, fun b z => ok.bs.free (n b z)⟩ fun b z => z.elim .inl fun z => .inr (n b z)
  · cases e
theorem mtsem_lift {t : TT} {f : En → Option Bool} (h : TSem K G t f) : MTSem K G t (liftT f) := by
  intro F B σ ρ H S o ρ' Q hs ok e q
  unfold liftT at e
  obtain ⟨oa, ea, e⟩ := Option.map_eq_some_iff.mp e
  obtain ⟨e1, e2⟩ := Prod.mk.inj e
  subst e1 e2
  refine h F H σ (vw ρ) H oa Q (hs.view ok.fs ok.bs) ok.fs (Same.refl _) ea fun F' H' p => ?_
  exact q F' H' S p.ext (hs.mono p.fm (Same.refl _) fun b u _ e => p.same _ _ e) ⟨p.fs, p.b ok.bs, ok.own.mono p, ok.nb⟩ fun b z => .inl z
/-- .. frozen -/
def frzM (f : En → Option (O × En)) : En → Option (O × En) := fun ρ => (f ρ).bind fun r => (frz r.1).map fun o => (o, r.2)
theorem fold_ext {F H F' H' : Hp} {S S1 : Rg} (e : Ext F H S F' H') (w : Own F' H' S1) (n : ∀ b, S1 b → S b ∨ H b = none) : Ext F H S (fold F' H' S1) H' := by
  refine ⟨e.keep, e.dom, e.fm.trans (fold_same w), fold_sub e.fs, fun b z => ?_⟩
  by_cases y : S1 b
  · exact (n b y).elim (fun z => .inr (.inr z)) fun z => .inr (.inl z)
  · rw [fold_out y] at z; exact e.nw b z
theorem Oks.fold {F B H : Hp} {S S1 : Rg} (o : Oks F B H S) (o1 : Oks F B H S1) (dj : ∀ b, S b → S1 b → False) : Oks (fold F H S1) B H S :=
  ⟨fold_sub o.fs, o.bs, fun b z => ⟨(o.own b z).1, by rw [fold_out (dj b z)]; exact (o.own b z).2⟩, o.nb⟩
theorem msem_frz {t : TE} {f : En → Option (O × En)} (h : MSem K G t f) : MSem K G t (frzM f) := by
  intro F B σ ρ H S o ρ' Q hs ok e q
  unfold frzM at e
  obtain ⟨⟨oa, ρa⟩, ea, e⟩ := Option.bind_eq_some_iff.mp e
  obtain ⟨ob, eb, e⟩ := Option.map_eq_some_iff.mp e
  unfold frz at eb
  split at eb
  · rename_i hn
    cases eb
    obtain ⟨e1, e2⟩ := Prod.mk.inj e
    subst e1 e2
    refine h F B σ ρ H S oa ρa Q hs ok ea fun v F' H' S' Sv ex s r dj o1 o2 n => ?_
    refine q v (fold F' H' Sv) H' S' (fun _ => False) (fold_ext ex o2.own fun b z => n b (.inr z)) (s.mono (fold_same o2.own) (Same.refl _) fun _ _ _ e => e) (.fr (r.nobo (fold_same o2.own) hn fun b u z e => by rw [fold_in z]; exact e)) (fun _ _ z => z) (o1.fold o2 dj) ⟨fold_sub ex.fs, o1.bs, fun _ z => z.elim, fun _ z => z.elim⟩ fun b z => z.elim (fun z => n b (.inl z)) fun z => z.elim
  · cases eb
/-- a name's own value is handed on -/
def movM (i : Nat) : En → Option (O × En) := fun ρ => match ρ[i]? with
  | some (some o) => some (o, ρ.set i none)
  | _ => none
theorem msem_mov (i : Nat) : MSem K G (tVar i) (movM i) := by
  intro F B σ ρ H S o ρ' Q hs ok e q
  unfold movM at e
  split at e
  · rename_i o' h
    cases e
    obtain ⟨v, S1, S2, h1, h2, h3, h4, h5, h6⟩ := hs.get h
    exact ⟨v, h1, q v F H S2 S1 (Ext.refl ok.fs) h3 h2 (fun b z z' => h4 b z' z) ⟨ok.fs, ok.bs, ok.own.sub h6, fun b z => ok.nb b (h6 b z)⟩ ⟨ok.fs, ok.bs, ok.own.sub h5, fun b z => ok.nb b (h5 b z)⟩ fun b z => .inl (z.elim (h6 b) (h5 b))⟩
  · cases e
end
section
variable {X : Cx} {e : Expr} {t : TE} {tt : TT} {f : En → Option O} {ft : En → Option Bool} {fm : En → Option (O × En)}
theorem mL (h : PX X e t f) : PMX X e t (liftM f) := ⟨h.run, msem_lift h.sem⟩
theorem mF (h : PMX X e t fm) : PMX X e t (frzM fm) := ⟨h.run, msem_frz h.sem⟩
theorem mV (i : Nat) {x : Str} {pos : Pos} (hN : X.N[i]? = some x := by rfl) (hv : Vis X.env.scope x := by first | exact Or.inl rfl | exact Or.inr (Or.inl rfl) | exact Or.inr (Or.inr rfl)) (hd : (x == ("__debug__" : Str)) = false := by decide)
    (hcd : (x == ("__classdict__" : Str)) = false := by decide) : PMX X (.Name x pos) (tVar i) (movM i) := ⟨pe_var hN hv hd hcd, msem_mov i⟩
theorem mT (h : PTX X e tt ft) : PMTX X e tt (liftT ft) := ⟨h.run, mtsem_lift h.sem⟩
end

/-! ### statements -/
inductive Res where
  | nx (ρ : En) | rt (o : O) (ρ : En) | bk (ρ : En) | ct (ρ : En)
section
variable (K : PySem.W.Frag) (G : Str → Option Value)
/-- the end of a statement: the state behind it -/
structure Aft (F B H : Hp) (S : Rg) (σ : L2.St) (P : List Nat) (ρ' : En) (F' : Hp) (H' : Hp) (S' : Rg) (σ' : L2.St) : Prop where
  ext : Ext F H S F' H'
  se : SE K G F' B H' σ' ρ' S'
  ok : Oks F' B H' S'
  sub : ∀ b, S' b → S b ∨ H b = none
  prot : ∀ i ∈ P, σ'[i]? = σ[i]?
def Post (F B H : Hp) (S : Rg) (σ : L2.St) (P : List Nat) (D : Ends) : Res → Prop
  | .nx ρ' => ∀ F' H' S' σ', Aft K G F B H S σ P ρ' F' H' S' σ' → D.nx σ' H'
  | .bk ρ' => ∀ F' H' S' σ', Aft K G F B H S σ P ρ' F' H' S' σ' → D.bk σ' H'
  | .ct ρ' => ∀ F' H' S' σ', Aft K G F B H S σ P ρ' F' H' S' σ' → D.ct σ' H'
  | .rt o ρ' => ∀ v F' H' S' Sv σ', Aft K G F B H S σ P ρ' F' H' S' σ' → OR K G F' B H' v o Sv → (∀ b, S' b → Sv b → False) → Oks F' B H' Sv → (∀ b, Sv b → S b ∨ H b = none) → D.rt v H'
def SSem (P : List Nat) (t : TS) (f : En → Option Res) : Prop := ∀ (F B : Hp) (σ : L2.St) (ρ : En) (H : Hp) (S : Rg) (r : Res) (D : Ends), SE K G F B H σ ρ S → Oks F B H S → f ρ = some r → Post K G F B H S σ P D r → t D σ H
end
structure PSX (X : Cx) (P : List Nat) (st : Stmt) (t : TS) (f : En → Option Res) : Prop where
  run : PS X st t
  sem : SSem X.K X.mg P t f
structure PSsX (X : Cx) (P : List Nat) (st : List Stmt) (t : TS) (f : En → Option Res) : Prop where
  run : PSs X st t
  sem : SSem X.K X.mg P t f
section
variable {K : PySem.W.Frag} {G : Str → Option Value} {F B H F1 H1 : Hp} {S S1 : Rg} {σ σ1 : L2.St} {P : List Nat} {ρ ρ1 : En}
theorem Aft.refl (hs : SE K G F B H σ ρ S) (ok : Oks F B H S) : Aft K G F B H S σ P ρ F H S σ := ⟨Ext.refl ok.fs, hs, ok, fun _ z => .inl z, fun _ _ => rfl⟩
theorem Aft.trans {ρ2 : En} {F2 H2 : Hp} {S2 : Rg} {σ2 : L2.St} (a : Aft K G F B H S σ P ρ1 F1 H1 S1 σ1) (b : Aft K G F1 B H1 S1 σ1 P ρ2 F2 H2 S2 σ2) : Aft K G F B H S σ P ρ2 F2 H2 S2 σ2 :=
  ⟨a.ext.trans b.ext a.sub, b.se, b.ok, fun x z => (b.sub x z).elim (a.sub x) fun y => .inr (by
    cases e : H x with
    | none => rfl
    | some u => exact absurd y (a.ext.dom x (by rw [e]; simp))), fun i hi => (b.prot i hi).trans (a.prot i hi)⟩
theorem Aft.free (a : Aft K G F B H S σ P ρ1 F1 H1 S1 σ1) {x : Addr} (h : H1 x = Option.none) : H x = Option.none := by
  cases e : H x with
  | none => rfl
  | some u => exact absurd h (a.ext.dom x (by rw [e]; simp))
theorem Post.trans {D : Ends} {r : Res} (a : Aft K G F B H S σ P ρ1 F1 H1 S1 σ1) (p : Post K G F B H S σ P D r) : Post K G F1 B H1 S1 σ1 P D r := by
  cases r with
  | nx ρ2 => exact fun F' H' S' σ' b => p F' H' S' σ' (a.trans b)
  | bk ρ2 => exact fun F' H' S' σ' b => p F' H' S' σ' (a.trans b)
  | ct ρ2 => exact fun F' H' S' σ' b => p F' H' S' σ' (a.trans b)
  | rt o ρ2 => exact fun v F' H' S' Sv σ' b r dj o2 n => p v F' H' S' Sv σ' (a.trans b) r dj o2 fun x z => (n x z).elim (a.sub x) fun y => .inr (a.free y)
/-- from an expression's end -/
theorem aft_of {F' H' : Hp} {S' : Rg} {ρ' : En} (ex : Ext F H S F' H') (s : SE K G F' B H' σ ρ' S') (o : Oks F' B H' S') (n : ∀ b, S' b → S b ∨ H b = Option.none) : Aft K G F B H S σ P ρ' F' H' S' σ := ⟨ex, s, o, n, fun _ _ => rfl⟩
end
/-! #### blocks -/
def sSeq (f g : En → Option Res) : En → Option Res := fun ρ => (f ρ).bind fun r => match r with
  | .nx ρ' => g ρ'
  | r => some r
def sNx : En → Option Res := fun ρ => some (.nx ρ)
def sBk : En → Option Res := fun ρ => some (.bk ρ)
def sCt : En → Option Res := fun ρ => some (.ct ρ)
section
variable {K : PySem.W.Frag} {G : Str → Option Value} {P : List Nat}
theorem ssem_next : SSem K G P tNext sNx := by
  intro F B σ ρ H S r D hs ok e p
  cases e
  exact p F H S σ (.refl hs ok)
theorem ssem_bk : SSem K G P tBreak sBk := by
  intro F B σ ρ H S r D hs ok e p
  cases e
  exact p F H S σ (.refl hs ok)
theorem ssem_ct : SSem K G P tCont sCt := by
  intro F B σ ρ H S r D hs ok e p
  cases e
  exact p F H S σ (.refl hs ok)
theorem ssem_seq {t u : TS} {f g : En → Option Res} (h : SSem K G P t f) (h' : SSem K G P u g) : SSem K G P (tSeq t u) (sSeq f g) := by
  intro F B σ ρ H S r D hs ok e p
  unfold sSeq at e
  obtain ⟨r1, e1, e⟩ := Option.bind_eq_some_iff.mp e
  refine h F B σ ρ H S r1 _ hs ok e1 ?_
  cases r1 with
  | nx ρ' =>
    intro F' H' S' σ' a
    exact h' F' B σ' ρ' H' S' r D a.se a.ok e (p.trans a)
  | bk ρ' => cases e; exact p
  | ct ρ' => cases e; exact p
  | rt o ρ' => cases e; exact p
def sIf (c : En → Option (Bool × En)) (f g : En → Option Res) : En → Option Res := fun ρ => (c ρ).bind fun r => if r.1 then f r.2 else g r.2
theorem ssem_if {c : TT} {t u : TS} {fc : En → Option (Bool × En)} {f g : En → Option Res} (hc : MTSem K G c fc) (h : SSem K G P t f) (h' : SSem K G P u g) : SSem K G P (tIfS c t u) (sIf fc f g) := by
  intro F B σ ρ H S r D hs ok e p
  unfold sIf at e
  obtain ⟨⟨b, ρ1⟩, e1, e⟩ := Option.bind_eq_some_iff.mp e
  refine hc F B σ ρ H S b ρ1 _ hs ok e1 fun F1 H1 S1 ex s o n => ?_
  have a : Aft K G F B H S σ P ρ1 F1 H1 S1 σ := aft_of ex s o n
  cases b with
  | true => exact h F1 B σ ρ1 H1 S1 r D s o (by simpa using e) (p.trans a)
  | false => exact h' F1 B σ ρ1 H1 S1 r D s o (by simpa using e) (p.trans a)
def sRet (f : En → Option (O × En)) : En → Option Res := fun ρ => (f ρ).map fun r => .rt r.1 r.2
def sRetN : En → Option Res := fun ρ => some (.rt (.fr .none) ρ)
theorem ssem_ret {te : TE} {f : En → Option (O × En)} (h : MSem K G te f) : SSem K G P (tRet te) (sRet f) := by
  intro F B σ ρ H S r D hs ok e p
  unfold sRet at e
  obtain ⟨⟨o, ρ1⟩, e1, e⟩ := Option.map_eq_some_iff.mp e
  cases e
  exact h F B σ ρ H S o ρ1 _ hs ok e1 fun v F1 H1 S1 Sv ex s r dj o1 o2 n => p v F1 H1 S1 Sv σ (aft_of ex s o1 fun b z => n b (.inl z)) r dj o2 fun b z => n b (.inr z)
theorem ssem_retN : SSem K G P tRetN sRetN := by
  intro F B σ ρ H S r D hs ok e p
  cases e
  exact p .non F H S (fun _ => False) σ (.refl hs ok) (.fr .non) (fun _ _ z => z) ⟨ok.fs, ok.bs, fun _ z => z.elim, fun _ z => z.elim⟩ fun _ z => z.elim
def sExp (f : En → Option (O × En)) : En → Option Res := fun ρ => (f ρ).map fun r => .nx r.2
theorem ssem_exp {te : TE} {f : En → Option (O × En)} (h : MSem K G te f) : SSem K G P (tDrop te) (sExp f) := by
  intro F B σ ρ H S r D hs ok e p
  unfold sExp at e
  obtain ⟨⟨o, ρ1⟩, e1, e⟩ := Option.map_eq_some_iff.mp e
  cases e
  exact h F B σ ρ H S o ρ1 _ hs ok e1 fun v F1 H1 S1 Sv ex s r dj o1 o2 n => p F1 H1 S1 σ (aft_of ex s o1 fun b z => n b (.inl z))
/-- name = e -/
def sSet (i : Nat) (f : En → Option (O × En)) : En → Option Res := fun ρ => (f ρ).map fun r => .nx (r.2.set i (some r.1))
theorem Aft.put {F B H F1 H1 : Hp} {S S1 Sv : Rg} {σ σ1 : L2.St} {ρ1 : En} {i : Nat} {v : V} {o : O} (a : Aft K G F B H S σ P ρ1 F1 H1 S1 σ1) (r : OR K G F1 B H1 v o Sv) (dj : ∀ b, S1 b → Sv b → False) (o2 : Oks F1 B H1 Sv) (n : ∀ b, Sv b → S b ∨ H b = none) (hi : i ∉ P) :
    Aft K G F B H S σ P (ρ1.set i (some o)) F1 H1 (fun b => Sv b ∨ S1 b) (σ1.set i (some v)) :=
  ⟨a.ext, a.se.put i r fun b z z' => dj b z' z, ⟨a.ok.fs, a.ok.bs, fun b z => z.elim (o2.own b) (a.ok.own b), fun b z => z.elim (o2.nb b) (a.ok.nb b)⟩, fun b z => z.elim (n b) (a.sub b), fun j hj => by
    rw [List.getElem?_set_ne fun e => hi (by rw [e]; exact hj)]; exact a.prot j hj⟩
theorem ssem_set {te : TE} {f : En → Option (O × En)} {i : Nat} (h : MSem K G te f) (hi : i ∉ P) : SSem K G P (tAsg te (gName i)) (sSet i f) := by
  intro F B σ ρ H S r D hs ok e p
  unfold sSet at e
  obtain ⟨⟨o, ρ1⟩, e1, e⟩ := Option.map_eq_some_iff.mp e
  cases e
  exact h F B σ ρ H S o ρ1 _ hs ok e1 fun v F1 H1 S1 Sv ex s r dj o1 o2 n => p F1 H1 _ _ ((aft_of ex s o1 fun b z => n b (.inl z)).put r dj o2 (fun b z => n b (.inr z)) hi)
/-- targets = e, e's value frozen or borrowed -/
def sTgt (u : O → Option Ups) (f : En → Option (O × En)) : En → Option Res := fun ρ => (f ρ).bind fun r => (u r.1).map fun us => .nx (setO r.2 us)
theorem ssem_tgt {te : TE} {g : TG} {u : O → Option Ups} {ks : List Nat} {f : En → Option (O × En)} (h : MSem K G te f) (hg : GSem K G g u ks) (hu : ∀ o us, u o = some us → o.lent = true) (hk : ∀ k ∈ ks, k ∉ P) : SSem K G P (tAsg te g) (sTgt u f) := by
  intro F B σ ρ H S r D hs ok e p
  unfold sTgt at e
  obtain ⟨⟨o, ρ1⟩, e1, e⟩ := Option.bind_eq_some_iff.mp e
  obtain ⟨us, e2, e⟩ := Option.map_eq_some_iff.mp e
  cases e
  refine h F B σ ρ H S o ρ1 _ hs ok e1 fun v F1 H1 S1 Sv ex s r dj o1 o2 n => ?_
  have ov : OV K G F1 B v o := by
    cases r with
    | fr r => exact r
    | bo r => exact r
    | _ => have := hu _ _ e2; simp [O.lent] at this
  refine hg.1 F1 B v o σ H1 us _ ov o1.fs o1.bs e2 fun ws hw => ?_
  refine p F1 H1 S1 _ ⟨ex, s.sets hw, o1, fun b z => n b (.inl z), fun j hj => ?_⟩
  rw [setV_out fun z => hk j (by rw [hw.keys, hg.2 _ _ e2] at z; exact z) hj]
end
end Tw
/-! Core10: loops. -/
namespace Tw
open PySem PySem.Spec L2

section
variable (K : PySem.W.Frag) (G : Str → Option Value)
/-- what a for walks, from a statement's state -/
def FSem (wi : TI) (f : En → Option (List O)) : Prop := ∀ (F B : Hp) (σ : L2.St) (ρ : En) (H : Hp) (S : Rg) (os : List O) (Rr : It → Hp → Prop), SE K G F B H σ ρ S → Oks F B H S → f ρ = some os →
  (∀ (F' H' : Hp) (J : It) (Gd : Hp → Prop) (Y : Nat → Hp → V → Hp → Prop), Pst F H F' H' → Walk J os.length Gd Y → (∀ F2 H2, Same F' F2 → Same F2 H2 → Same B H2 → Gd H2) →
    (∀ i F2 H2 x H3 o, Same F' F2 → Same F2 H2 → Same B H2 → os[i]? = some o → Y i H2 x H3 → ∃ F3, Pst F2 H2 F3 H3 ∧ OV K G F3 B x o) → Rr J H') → wi σ H Rr
end
/-- what is owned may be looked at, not walked -/
def itV (fa : En → Option (List O)) (g : List O → Option (List O)) : En → Option (List O) := fun ρ => (fa (vw ρ)).bind fun os => if os.all O.lent && O.nbs os then g os else none
/-- what is owned is not to be looked at -/
def itR (fa : En → Option (List O)) (g : List O → Option (List O)) : En → Option (List O) := fun ρ => xJ fa g (vr ρ)
section
variable {K : PySem.W.Frag} {G : Str → Option Value} {P : List Nat}
theorem fsem_V {ta : TA} {ri : RI} {fa : En → Option (List O)} {g : List O → Option (List O)} (ha : ASem K G ta fa) (hr : IRSem K G ri g) : FSem K G (wiOf ta ri) (itV fa g) := by
  intro F B σ ρ H S os Rr hs ok e q
  unfold itV at e
  obtain ⟨oa, ea, e⟩ := Option.bind_eq_some_iff.mp e
  split at e
  · rename_i hl
    rw [Bool.and_eq_true] at hl
    refine ha F H σ (vw ρ) H oa _ (hs.view ok.fs ok.bs) ok.fs (Same.refl _) ea fun vs F1 H1 S1 p1 r w n => ?_
    exact hr F1 B H1 vs oa S1 os Rr p1.fs (p1.b ok.bs) (r.reB hl.2) hl.1 e fun J Gd Y => q F1 H1 J Gd Y p1
  · cases e
theorem fsem_R {ta : TA} {ri : RI} {fa : En → Option (List O)} {g : List O → Option (List O)} (ha : ASem K G ta fa) (hr : IRSem K G ri g) : FSem K G (wiOf ta ri) (itR fa g) := by
  intro F B σ ρ H S os Rr hs ok e q
  exact isem_of ha hr F B σ (vr ρ) H os Rr hs.viewR ok.fs ok.bs e q

/-! ### for -/
def forGo (u : O → Option Ups) (body : En → Option Res) : List O → En → Option Res
  | [], ρ => some (.nx ρ)
  | o :: os, ρ => (u o).bind fun us => (body (setO ρ us)).bind fun r => match r with
    | .nx ρ' => forGo u body os ρ'
    | .ct ρ' => forGo u body os ρ'
    | .bk ρ' => some (.nx ρ')
    | .rt o ρ' => some (.rt o ρ')
def sFor (fi : En → Option (List O)) (u : O → Option Ups) (body : En → Option Res) : En → Option Res := fun ρ => (fi ρ).bind fun os => forGo u body os ρ
theorem ssem_for {wi : TI} {fi : En → Option (List O)} {g : TG} {u : O → Option Ups} {ks : List Nat} {tb : TS} {body : En → Option Res} (hi : FSem K G wi fi) (hg : GSem K G g u ks) (hb : SSem K G P tb body) (hk : ∀ k ∈ ks, k ∉ P) : SSem K G P (tFor wi g tb) (sFor fi u body) := by
  intro F B σ ρ H S r D hs ok e p
  unfold sFor at e
  obtain ⟨os, ei, e⟩ := Option.bind_eq_some_iff.mp e
  refine hi F B σ ρ H S os _ hs ok ei fun F1 H1 J Gd Y p1 W stay yl => ?_
  have a1 : Aft K G F B H S σ P ρ F1 H1 S σ := aft_of p1.ext (hs.mono p1.fm (Same.refl _) fun b w _ e => p1.same _ _ e) ⟨p1.fs, p1.b ok.bs, ok.own.mono p1, ok.nb⟩ fun b z => .inl z
  refine for_it W (fun i σ' H' => ∃ F' S' ρ', Aft K G F B H S σ P ρ' F' H' S' σ' ∧ Same F1 F' ∧ forGo u body (os.drop i) ρ' = some r) ⟨F1, S, ρ, a1, Same.refl _, by simpa using e⟩ ?_ ?_ ?_
  · rintro i σ' H' _ ⟨F', S', ρ', a, sf, _⟩
    exact stay F' H' sf a.ok.fs a.ok.bs
  · rintro i x σ' H' H2 hlt ⟨F', S', ρ', a, sf, er⟩ y
    obtain ⟨F3, p3, r3⟩ := yl i F' H' x H2 os[i] sf a.ok.fs a.ok.bs (List.getElem?_eq_getElem hlt) y
    rw [List.drop_eq_getElem_cons hlt] at er
    simp only [forGo] at er
    obtain ⟨us, eu, er⟩ := Option.bind_eq_some_iff.mp er
    obtain ⟨rb, eb, er⟩ := Option.bind_eq_some_iff.mp er
    have b3 : Same B H2 := p3.b a.ok.bs
    have o3 : Oks F3 B H2 S' := ⟨p3.fs, b3, a.ok.own.mono p3, a.ok.nb⟩
    refine hg.1 F3 B x os[i] σ' H2 us _ r3 p3.fs b3 eu fun ws hw => ?_
    have s3 : SE K G F3 B H2 (setV σ' ws) (setO ρ' us) S' := (a.se.mono p3.fm (Same.refl _) fun b w _ e => p3.same _ _ e).sets hw
    have a3 : Aft K G F B H S σ P (setO ρ' us) F3 H2 S' (setV σ' ws) := ⟨a.ext.trans p3.ext a.sub, s3, o3, a.sub, fun j hj => by
      rw [setV_out fun z => hk j (by rw [hw.keys, hg.2 _ _ eu] at z; exact z) hj]; exact a.prot j hj⟩
    refine hb F3 B _ _ H2 S' rb _ s3 o3 eb ?_
    cases rb with
    | nx ρ2 => exact fun F4 H4 S4 σ4 a4 => ⟨F4, S4, ρ2, a3.trans a4, sf.trans (p3.fm.trans a4.ext.fm), er⟩
    | ct ρ2 => exact fun F4 H4 S4 σ4 a4 => ⟨F4, S4, ρ2, a3.trans a4, sf.trans (p3.fm.trans a4.ext.fm), er⟩
    | bk ρ2 => cases er; exact fun F4 H4 S4 σ4 a4 => p F4 H4 S4 σ4 (a3.trans a4)
    | rt o ρ2 => cases er; exact (p.trans a3)
  · rintro σ' H' ⟨F', S', ρ', a, sf, er⟩
    rw [List.drop_of_length_le (Nat.le_refl _)] at er
    cases er
    exact p F' H' S' σ' a

/-! ### while -/
def whGo (c : En → Option (Bool × En)) (body : En → Option Res) : Nat → En → Option Res
  | 0, _ => none
  | n + 1, ρ => (c ρ).bind fun t => if t.1 then (body t.2).bind fun r => match r with
      | .nx ρ' => whGo c body n ρ'
      | .ct ρ' => whGo c body n ρ'
      | .bk ρ' => some (.nx ρ')
      | .rt o ρ' => some (.rt o ρ')
    else some (.nx t.2)
@[irreducible] def FUEL : Nat := 1000000000000
theorem fuel_eq : FUEL = 1000000000000 := by unfold FUEL; rfl
def sWhile (c : En → Option (Bool × En)) (body : En → Option Res) : En → Option Res := fun ρ => whGo c body FUEL ρ
theorem whGo_mono {c : En → Option (Bool × En)} {body : En → Option Res} : ∀ {n m : Nat} {ρ : En} {r : Res}, n ≤ m → whGo c body n ρ = some r → whGo c body m ρ = some r
  | 0, _, _, _, _, h => by simp [whGo] at h
  | n + 1, 0, _, _, hn, _ => by omega
  | n + 1, m + 1, ρ, r, hn, h => by
    simp only [whGo] at h ⊢
    obtain ⟨t, e1, h⟩ := Option.bind_eq_some_iff.mp h
    rw [e1]
    show (if t.1 = true then _ else _) = _
    split at h
    · rename_i ht
      rw [if_pos ht]
      obtain ⟨rb, e2, h⟩ := Option.bind_eq_some_iff.mp h
      rw [e2]
      cases rb with
      | nx ρ' => exact whGo_mono (by omega) h
      | ct ρ' => exact whGo_mono (by omega) h
      | bk ρ' => exact h
      | rt o ρ' => exact h
    · rename_i ht
      rw [if_neg ht]; exact h
theorem sWhile_of {c : En → Option (Bool × En)} {body : En → Option Res} {n : Nat} {ρ : En} {r : Res} (h : whGo c body n ρ = some r) (hn : n ≤ 1000000000000 := by omega) : sWhile c body ρ = some r := whGo_mono (by rw [fuel_eq]; exact hn) h
theorem ssem_while {c : TT} {fc : En → Option (Bool × En)} {tb : TS} {body : En → Option Res} (hc : MTSem K G c fc) (hb : SSem K G P tb body) : SSem K G P (tWhile c tb) (sWhile fc body) := by
  intro F B σ ρ H S r D hs ok e p
  unfold sWhile at e
  refine ⟨fun m σ' H' => ∃ F' S' ρ', Aft K G F B H S σ P ρ' F' H' S' σ' ∧ whGo fc body m ρ' = some r, ⟨FUEL, F, S, ρ, .refl hs ok, e⟩, ?_⟩
  rintro m σ' H' ⟨F', S', ρ', a, er⟩
  cases m with
  | zero => simp [whGo] at er
  | succ m =>
    simp only [whGo] at er
    obtain ⟨⟨b, ρ1⟩, e1, er⟩ := Option.bind_eq_some_iff.mp er
    refine hc F' B σ' ρ' H' S' b ρ1 _ a.se a.ok e1 fun F1 H1 S1 ex s o n => ?_
    have a1 : Aft K G F B H S σ P ρ1 F1 H1 S1 σ' := a.trans (aft_of ex s o n)
    cases b with
    | false =>
      simp only [Bool.false_eq_true, if_false] at er ⊢
      cases er
      exact p F1 H1 S1 σ' a1
    | true =>
      simp only [if_true] at er ⊢
      obtain ⟨rb, e2, er⟩ := Option.bind_eq_some_iff.mp er
      refine ⟨fun σ2 H2 => ∃ F2 S2 ρ2, Aft K G F B H S σ P ρ2 F2 H2 S2 σ2 ∧ whGo fc body m ρ2 = some r, fun σ2 H2 q => ⟨m, Nat.lt_succ_self _, q⟩, ?_⟩
      refine hb F1 B σ' ρ1 H1 S1 rb _ s o e2 ?_
      cases rb with
      | nx ρ2 => exact fun F4 H4 S4 σ4 a4 => ⟨F4, S4, ρ2, a1.trans a4, er⟩
      | ct ρ2 => exact fun F4 H4 S4 σ4 a4 => ⟨F4, S4, ρ2, a1.trans a4, er⟩
      | bk ρ2 => cases er; exact fun F4 H4 S4 σ4 a4 => p F4 H4 S4 σ4 (a1.trans a4)
      | rt o ρ2 => cases er; exact p.trans a1

/-! ### name op= e -/
def sAug (i : Nat) (g : List O → Option O) (f : En → Option (O × En)) : En → Option Res := fun ρ => match ρ[i]? with
  | some (some (.fr d)) => (f ρ).bind fun r => (g [.fr d, r.1]).map fun o => .nx (r.2.set i (some o))
  | _ => none
theorem ssem_aug {i : Nat} {te : TE} {ti : TIp} {g : List O → Option O} {f : En → Option (O × En)} (h : MSem K G te f) (ho : RSem K G (fun vs H Q => ∃ x y, vs = [x, y] ∧ ti x y H Q) g) (hi : i ∉ P) : SSem K G P (tAug i te ti) (sAug i g f) := by
  intro F B σ ρ H S r D hs ok e p
  unfold sAug at e
  split at e
  · rename_i d hd
    obtain ⟨⟨o2, ρ1⟩, e1, e⟩ := Option.bind_eq_some_iff.mp e
    obtain ⟨o3, e2, e⟩ := Option.map_eq_some_iff.mp e
    cases e
    obtain ⟨v, S1, S2, h1, h2, h3, h4, h5, h6⟩ := hs.get hd
    refine ⟨v, h1, ?_⟩
    refine h F B σ ρ H S o2 ρ1 _ hs ok e1 fun v2 F1 H1 S' Sv ex s r2 dj o1 ov n => ?_
    have r1 : OR K G F1 B H1 v (.fr d) (fun _ => False) := by
      cases h2 with
      | fr r => exact .fr (R.same ex.fm r)
    obtain ⟨x, y, exy, hh⟩ := ho F1 B H1 [v, v2] [.fr d, o2] Sv o3 (fun z H2 => D.nx (σ.set i (some z)) H2) o1.fs o1.bs
      (.cons (S1 := fun _ => False) (S2 := Sv) r1 (.cons (S1 := Sv) (S2 := fun _ => False) r2 .nil (fun _ _ z => z) (fun _ z => z) fun _ z => z.elim) (fun _ z => z.elim) (fun _ z => z.elim) fun _ z => z) ov.own ov.nb e2
      fun z F2 H2 S3 p2 r3 w3 n3 => by
        have a1 : Aft K G F B H S σ P ρ1 F1 H1 S' σ := aft_of ex s o1 fun b z => n b (.inl z)
        have a2 : Aft K G F B H S σ P ρ1 F2 H2 S' σ := a1.trans (aft_of p2.ext (s.mono p2.fm (Same.refl _) fun b w _ e => p2.same _ _ e) ⟨p2.fs, p2.b o1.bs, o1.own.mono p2, o1.nb⟩ fun b z => .inl z)
        refine p F2 H2 _ _ (a2.put r3 (fun b z z' => ?_) ⟨p2.fs, p2.b o1.bs, w3, fun b z => (n3 b z).elim (ov.nb b) fun z => o1.bs.free z⟩ (fun b z => (n3 b z).elim (fun z => n b (.inr z)) fun z => .inr (a1.free z)) hi)
        rcases n3 b z' with y | y
        · exact dj b z y
        · exact (o1.own b z).1 y
    cases exy
    exact hh
  · cases e
end
section
variable {X : Cx} {P : List Nat} {st : Stmt} {rest : List Stmt} {pos : Pos}
theorem bNil : PSsX X P [] tNext sNx := ⟨pss_nil, ssem_next⟩
theorem bCons {t u : TS} {f g : En → Option Res} (h : PSX X P st t f) (h' : PSsX X P rest u g) : PSsX X P (st :: rest) (tSeq t u) (sSeq f g) := ⟨pss_cons h.run h'.run, ssem_seq h.sem h'.sem⟩
theorem bOne {t : TS} {f : En → Option Res} (h : PSX X P st t f) : PSsX X P [st] t f := ⟨pss_one h.run, h.sem⟩
theorem kPass : PSX X P (.Pass pos) tNext sNx := ⟨ps_pass, ssem_next⟩
theorem kBreak : PSX X P (.Break pos) tBreak sBk := ⟨ps_break, ssem_bk⟩
theorem kCont : PSX X P (.Continue pos) tCont sCt := ⟨ps_continue, ssem_ct⟩
theorem kIf {c : Expr} {a b : List Stmt} {tc : TT} {t u : TS} {fc : En → Option (Bool × En)} {f g : En → Option Res} (hc : PMTX X c tc fc) (ha : PSsX X P a t f) (hb : PSsX X P b u g) : PSX X P (.If c a b pos) (tIfS tc t u) (sIf fc f g) :=
  ⟨ps_if hc.run ha.run hb.run, ssem_if hc.sem ha.sem hb.sem⟩
theorem kRet {e : Expr} {te : TE} {f : En → Option (O × En)} (h : PMX X e te f) : PSX X P (.Return (some e) pos) (tRet te) (sRet f) := ⟨ps_ret h.run, ssem_ret h.sem⟩
theorem kRetN : PSX X P (.Return none pos) tRetN sRetN := ⟨ps_retN, ssem_retN⟩
theorem kExp {e : Expr} {te : TE} {f : En → Option (O × En)} (h : PMX X e te f) (hs : swapsWith e none pos.line X.env = pure false := by rfl) : PSX X P (.Expr e pos) (tDrop te) (sExp f) := ⟨ps_expr h.run hs, ssem_exp h.sem⟩
theorem kSet (i : Nat) {x : Str} {e : Expr} {te : TE} {f : En → Option (O × En)} {pos' : Pos} (hN : X.N.Nodup) (h : PMX X e te f) (hp : i ∉ P := by decide) (hi : X.N[i]? = some x := by rfl) (hx : Loc X.env.scope x := by first | exact .inl rfl | exact .inr rfl)
    (hs : swapsWith e (some (.Name x pos')) pos.line X.env = pure false := by rfl) (hf : X.fn x = true ∨ X.env.scope.names.lookup x = some .local := by first | exact .inl rfl | exact .inr rfl) : PSX X P (.Assign [.Name x pos'] e pos) (tAsg te (gName i)) (sSet i f) :=
  ⟨ps_set hN hi hx h.run hs hf, ssem_set h.sem hp⟩
theorem kTgt {tg e : Expr} {te : TE} {g : TG} {u : O → Option Ups} {ks : List Nat} {f : En → Option (O × En)} (h : PMX X e te f) (hg : PGX X tg g u ks) (hu : ∀ o us, u o = some us → o.lent = true) (hk : ∀ k ∈ ks, k ∉ P := by decide) (hs : swapsWithSole [tg] e pos.line X.env = pure false := by rfl) (hw : swappedStores [tg] e X.env = pure none := by rfl)
    (h1 : (assignEach [tg] X.env).map (·.2) = [assign tg X.env] := by rfl) : PSX X P (.Assign [tg] e pos) (tAsg te g) (sTgt u f) := ⟨ps_asg h.run hg.run hs hw h1, ssem_tgt h.sem hg.sem hu hk⟩
theorem uT_lent {n : Nat} {w : List O → Option Ups} : ∀ o us, uT n w o = some us → o.lent = true := by
  intro o us h
  unfold uT at h
  split at h
  · rfl
  · rfl
  · cases h
theorem kAug (i : Nat) {x : Str} {e : Expr} {te : TE} {op : Operator} {ti : TIp} {g : List O → Option O} {f : En → Option (O × En)} {pos' : Pos} (hN : X.N.Nodup) (ho : PIp X op ti) (hr : RSem X.K X.mg (fun vs H Q => ∃ x y, vs = [x, y] ∧ ti x y H Q) g) (h : PMX X e te f) (hp : i ∉ P := by decide) (hi : X.N[i]? = some x := by rfl) (hx : Loc X.env.scope x := by first | exact .inl rfl | exact .inr rfl)
    (hf : X.fn x = true ∨ X.env.scope.names.lookup x = some .local := by first | exact .inl rfl | exact .inr rfl) : PSX X P (.AugAssign (.Name x pos') op e pos) (tAug i te ti) (sAug i g f) := ⟨ps_aug hN hi hx h.run ho hf, ssem_aug h.sem hr hp⟩
theorem kWhile {c : Expr} {body : List Stmt} {tc : TT} {tb : TS} {fc : En → Option (Bool × En)} {f : En → Option Res} (hpo : PassesOwn (model X.prog X.w) X.A X.env X.xe) (hc : PMTX X c tc fc) (hb : PSsX X P body tb f) : PSX X P (.While c body [] pos) (tWhile tc tb) (sWhile fc f) :=
  ⟨ps_while hpo hc.run hb.run, ssem_while hc.sem hb.sem⟩
section
variable {tg iter : Expr} {body : List Stmt} {ta : TA} {ri : RI} {fa : En → Option (List O)} {gi : List O → Option (List O)} {g : TG} {u : O → Option Ups} {ks : List Nat} {tb : TS} {f : En → Option Res}
theorem kForV (hpo : PassesOwn (model X.prog X.w) X.A X.env X.xe) (hc : X.calm = true) (hi : PJX X tg iter ta ri fa gi) (hg : PGX X tg g u ks) (hb : PSsX X P body tb f) (hk : ∀ k ∈ ks, k ∉ P := by decide) (hs : ∀ x, foldedSetIterable iter X.env x = pure x := by intro _; rfl) :
    PSX X P (.For tg iter body [] pos) (tFor (wiOf ta ri) g tb) (sFor (itV fa gi) u f) := ⟨ps_for hpo hc hi.run hg.run hb.run hs, ssem_for (fsem_V hi.asem hi.rsem) hg.sem hb.sem hk⟩
theorem kForR (hpo : PassesOwn (model X.prog X.w) X.A X.env X.xe) (hc : X.calm = true) (hi : PJX X tg iter ta ri fa gi) (hg : PGX X tg g u ks) (hb : PSsX X P body tb f) (hk : ∀ k ∈ ks, k ∉ P := by decide) (hs : ∀ x, foldedSetIterable iter X.env x = pure x := by intro _; rfl) :
    PSX X P (.For tg iter body [] pos) (tFor (wiOf ta ri) g tb) (sFor (itR fa gi) u f) := ⟨ps_for hpo hc hi.run hg.run hb.run hs, ssem_for (fsem_R hi.asem hi.rsem) hg.sem hb.sem hk⟩
end
end
end Tw
/-! Core11: places within what is owned, changes there. -/
namespace Tw
open PySem PySem.Spec L2

inductive Stp where
  | ix (n : Nat) | fld (f : Str)
def setF : List (Str × O) → Str → O → List (Str × O)
  | [], _, _ => []
  | (g, o) :: r, f, n => if f == g then (g, n) :: r else (g, o) :: setF r f n
def O.at' : List Stp → O → Option O
  | [], o => some o
  | .ix n :: p, .list os => (os[n]?).bind (O.at' p)
  | .ix n :: p, .tup os => (os[n]?).bind (O.at' p)
  | .fld f :: p, .obj _ fs => (fs.lookup f).bind (O.at' p)
  | _, _ => none
def O.putAt : List Stp → O → O → O
  | [], _, n => n
  | .ix k :: p, .list os, n => match os[k]? with
    | some o => .list (os.set k (O.putAt p o n))
    | none => .list os
  | .ix k :: p, .tup os, n => match os[k]? with
    | some o => .tup (os.set k (O.putAt p o n))
    | none => .tup os
  | .fld f :: p, .obj c fs, n => match fs.lookup f with
    | some o => .obj c (setF fs f (O.putAt p o n))
    | none => .obj c fs
  | _, o, _ => o
@[simp] theorem at_nil (o : O) : O.at' [] o = some o := by simp [O.at']
@[simp] theorem put_nil (o n : O) : O.putAt [] o n = n := by simp [O.putAt]
inductive VP (H : Hp) : V → List Stp → V → Prop
  | nil {v : V} : VP H v [] v
  | ixL {a : Addr} {vs : List V} {n : Nat} {v1 v : V} {p : List Stp} : H a = some (.lst vs) → vs[n]? = some v1 → VP H v1 p v → VP H (.ref a) (.ix n :: p) v
  | ixT {a : Addr} {vs : List V} {n : Nat} {v1 v : V} {p : List Stp} : H a = some (.tup vs) → vs[n]? = some v1 → VP H v1 p v → VP H (.ref a) (.ix n :: p) v
  | fld {a C dx : Addr} {fs : List (Str × V)} {f : Str} {v1 v : V} {p : List Stp} : H a = some (.ins C dx fs) → fs.lookup f = some v1 → VP H v1 p v → VP H (.ref a) (.fld f :: p) v
theorem VP.mono {H H' : Hp} {v w : V} {p : List Stp} (s : Same H H') (h : VP H v p w) : VP H' v p w := by
  induction h with
  | nil => exact .nil
  | ixL a b _ ih => exact .ixL (s _ _ a) b ih
  | ixT a b _ ih => exact .ixT (s _ _ a) b ih
  | fld a b _ ih => exact .fld (s _ _ a) b ih
theorem VP.app {H : Hp} {v w x : V} {p q : List Stp} (h : VP H v p w) (h' : VP H w q x) : VP H v (p ++ q) x := by
  induction h with
  | nil => exact h'
  | ixL a b _ ih => exact .ixL a b (ih h')
  | ixT a b _ ih => exact .ixT a b (ih h')
  | fld a b _ ih => exact .fld a b (ih h')
theorem at_app : ∀ (p q : List Stp) (o : O), O.at' (p ++ q) o = (O.at' p o).bind (O.at' q)
  | [], q, o => by simp
  | .ix n :: p, q, o => by
    cases o with
    | list os => simp only [List.cons_append, O.at']; cases os[n]? <;> simp [at_app p q]
    | tup os => simp only [List.cons_append, O.at']; cases os[n]? <;> simp [at_app p q]
    | _ => simp [O.at']
  | .fld f :: p, q, o => by
    cases o with
    | obj c fs => simp only [List.cons_append, O.at']; cases fs.lookup f <;> simp [at_app p q]
    | _ => simp [O.at']

section
variable {K : PySem.W.Frag} {G : Str → Option Value} {F F' B B' H H' : Hp}
/-- what is known of a part: it, and how the whole is put together anew -/
def Lens (K : PySem.W.Frag) (G : Str → Option Value) (F B H : Hp) (v1 : V) (o1 : O) (S : Rg) (W : Hp → Hp → O → Rg → Prop) : Prop :=
  ∃ S1 Sr : Rg, OR K G F B H v1 o1 S1 ∧ (∀ b, S1 b → Sr b → False) ∧ (∀ b, S1 b → S b) ∧ (∀ b, Sr b → S b) ∧
    ∀ F2 H2 o2 S2, Same F F2 → (∀ b u, Sr b → H b = some u → H2 b = some u) → (∀ b, S2 b → Sr b → False) → OR K G F2 B H2 v1 o2 S2 → W F2 H2 o2 fun b => Sr b ∨ S2 b
theorem ORs.lens {vs : List V} {os : List O} : ∀ {S : Rg}, ORs K G F B H vs os S → ∀ {n : Nat} {o1 : O}, os[n]? = some o1 → ∃ v1, vs[n]? = some v1 ∧ Lens K G F B H v1 o1 S fun F2 H2 o2 T => ORs K G F2 B H2 vs (os.set n o2) T := by
  induction os generalizing vs with
  | nil => intro S h n o1 e; simp at e
  | cons o os ih =>
    intro S h n o1 e
    cases h with
    | @cons v vs _ _ _ T1 T2 a t dj i1 i2 =>
      cases n with
      | zero =>
        simp at e; subst e
        exact ⟨v, rfl, T1, T2, a, dj, i1, i2, fun F2 H2 o2 S2 sf kp d2 r => .cons r (t.mono sf (Same.refl _) kp) d2 (fun b z => .inr z) fun b z => .inl z⟩
      | succ n =>
        obtain ⟨v1, hv, U1, Ur, r1, d1, j1, j2, rb⟩ := ih t (n := n) (o1 := o1) (by simpa using e)
        refine ⟨v1, by simpa using hv, U1, fun b => T1 b ∨ Ur b, r1, fun b z z' => z'.elim (fun z' => dj b z' (j1 b z)) (d1 b z), fun b z => i2 b (j1 b z), fun b z => z.elim (i1 b) fun z => i2 b (j2 b z), fun F2 H2 o2 S2 sf kp d2 r => ?_⟩
        have q := rb F2 H2 o2 S2 sf (fun b u z => kp b u (.inr z)) (fun b z z' => d2 b z (.inr z')) r
        exact .cons (a.mono sf (Same.refl _) fun b u z => kp b u (.inl z)) q (fun b z z' => z'.elim (fun z' => dj b z (j2 b z')) fun z' => d2 b z' (.inl z)) (fun b z => .inl (.inl z)) fun b z => z.elim (fun z => .inl (.inr z)) .inr
theorem ORf.lens {vs : List (Str × V)} {os : List (Str × O)} : ∀ {S : Rg}, ORf K G F B H vs os S → ∀ {f : Str} {o1 : O}, os.lookup f = some o1 → ∃ v1, vs.lookup f = some v1 ∧ Lens K G F B H v1 o1 S fun F2 H2 o2 T => ORf K G F2 B H2 vs (setF os f o2) T := by
  induction os generalizing vs with
  | nil => intro S h n o1 e; simp at e
  | cons o os ih =>
    intro S h f o1 e
    cases h with
    | @cons g v vs o _ _ T1 T2 a t dj i1 i2 =>
      rw [List.lookup_cons] at e
      by_cases hf : (f == g) = true
      · simp only [hf] at e
        cases e
        refine ⟨v, by rw [List.lookup_cons]; simp [hf], T1, T2, a, dj, i1, i2, fun F2 H2 o2 S2 sf kp d2 r => ?_⟩
        simp only [setF, hf, if_true]
        exact .cons r (t.mono sf (Same.refl _) kp) d2 (fun b z => .inr z) fun b z => .inl z
      · rw [Bool.not_eq_true] at hf
        simp only [hf] at e
        obtain ⟨v1, hv, U1, Ur, r1, d1, j1, j2, rb⟩ := ih t (f := f) (o1 := o1) e
        refine ⟨v1, by rw [List.lookup_cons]; simpa [hf] using hv, U1, fun b => T1 b ∨ Ur b, r1, fun b z z' => z'.elim (fun z' => dj b z' (j1 b z)) (d1 b z), fun b z => i2 b (j1 b z), fun b z => z.elim (i1 b) fun z => i2 b (j2 b z), fun F2 H2 o2 S2 sf kp d2 r => ?_⟩
        have q := rb F2 H2 o2 S2 sf (fun b u z => kp b u (.inr z)) (fun b z z' => d2 b z (.inr z')) r
        simp only [setF, hf, Bool.false_eq_true, if_false]
        exact .cons (a.mono sf (Same.refl _) fun b u z => kp b u (.inl z)) q (fun b z z' => z'.elim (fun z' => dj b z (j2 b z')) fun z' => d2 b z' (.inl z)) (fun b z => .inl (.inl z)) fun b z => z.elim (fun z => .inl (.inr z)) .inr
theorem Lens.sub {v1 : V} {o1 : O} {S S' : Rg} {W : Hp → Hp → O → Rg → Prop} (h : Lens K G F B H v1 o1 S W) (s : ∀ b, S b → S' b) : Lens K G F B H v1 o1 S' W := by
  obtain ⟨S1, Sr, a, b, c, d, e⟩ := h
  exact ⟨S1, Sr, a, b, fun x z => s x (c x z), fun x z => s x (d x z), e⟩
/-- a part of a part -/
theorem Lens.then {v1 v2 : V} {o1 o2 : O} {S : Rg} {a : Addr} {W W' : Hp → Hp → O → Rg → Prop} {g : O → O} (h : Lens K G F B H v1 o1 S W) (h' : ∀ T, OR K G F B H v1 o1 T → Lens K G F B H v2 o2 T fun F2 H2 n T => OR K G F2 B H2 v1 (g n) T)
    (na : ¬ S a) {S' : Rg} (sa : S' a) (s : ∀ b, S b → S' b) (w : ∀ F2 H2 n T T', Same F F2 → (∀ u, H a = some u → H2 a = some u) → ¬ T a → (∀ b, T b → T' b) → T' a → W F2 H2 (g n) T → W' F2 H2 n T') : Lens K G F B H v2 o2 S' W' := by
  obtain ⟨S1, Sr, r1, d1, i1, i2, rb⟩ := h
  obtain ⟨U1, Ur, r2, d2, j1, j2, rb2⟩ := h' S1 r1
  refine ⟨U1, fun b => b = a ∨ Sr b ∨ Ur b, r2, ?_, fun b z => s b (i1 b (j1 b z)), ?_, fun F2 H2 n S2 sf kp d3 r => ?_⟩
  · rintro b z (rfl | y | y)
    · exact na (i1 _ (j1 _ z))
    · exact d1 b (j1 b z) y
    · exact d2 b z y
  · rintro b (rfl | y | y)
    · exact sa
    · exact s b (i2 b y)
    · exact s b (i1 b (j2 b y))
  · have q := rb2 F2 H2 n S2 sf (fun b u z => kp b u (.inr (.inr z))) (fun b z z' => d3 b z (.inr (.inr z'))) r
    have q2 := rb F2 H2 (g n) _ sf (fun b u z => kp b u (.inr (.inl z))) (fun b z z' => z.elim (fun z => d1 b (j2 b z) z') fun z => d3 b z (.inr (.inl z'))) q
    refine w F2 H2 n _ _ sf (fun u => kp a u (.inl rfl)) ?_ ?_ (.inl (.inl rfl)) q2
    · rintro (z | z | z)
      · exact na (i2 _ z)
      · exact na (i1 _ (j2 _ z))
      · exact d3 _ z (.inl rfl)
    · rintro b (z | z | z)
      · exact .inl (.inr (.inl z))
      · exact .inl (.inr (.inr z))
      · exact .inr z
theorem OR.lens : ∀ {p : List Stp} {v : V} {o : O} {S : Rg} {o1 : O} {v1 : V}, OR K G F B H v o S → O.at' p o = some o1 → VP H v p v1 → Lens K G F B H v1 o1 S fun F2 H2 o2 T => OR K G F2 B H2 v (O.putAt p o o2) T
  | [], v, o, S, o1, v1, h, e, hp => by
    cases hp
    simp at e; subst e
    exact ⟨S, fun _ => False, h, fun _ _ z => z, fun _ z => z, fun _ z => z.elim, fun F2 H2 o2 S2 _ _ _ r => by
      show OR K G F2 B H2 v (O.putAt [] o o2) _
      rw [put_nil]
      exact r.sub fun b z => Or.inr z⟩
  | .ix n :: p, v, o, S, o1, v1, h, e, hp => by
    cases o with
    | list os =>
      cases h with
      | @list a vs _ _ S1 h1 h2 h3 h4 h5 =>
        simp only [O.at'] at e
        obtain ⟨o', e1, e2⟩ := Option.bind_eq_some_iff.mp e
        obtain ⟨w, hw, L⟩ := h3.lens e1
        have hp' : VP H w p v1 := by
          cases hp with
          | ixL x y z => rw [h1] at x; cases x; rw [hw] at y; cases y; exact z
          | ixT x y z => rw [h1] at x; cases x
        refine Lens.then (a := a) (g := O.putAt p o') L (fun T r => OR.lens r e2 hp') h4 h2 h5 fun F2 H2 n2 T T' sf ka nt st ta q => ?_
        simp only [O.putAt, e1]
        exact .list (ka _ h1) ta q nt st
    | tup os =>
      cases h with
      | @tup a vs _ _ S1 h1 h2 h3 h4 h5 =>
        simp only [O.at'] at e
        obtain ⟨o', e1, e2⟩ := Option.bind_eq_some_iff.mp e
        obtain ⟨w, hw, L⟩ := h3.lens e1
        have hp' : VP H w p v1 := by
          cases hp with
          | ixT x y z => rw [h1] at x; cases x; rw [hw] at y; cases y; exact z
          | ixL x y z => rw [h1] at x; cases x
        refine Lens.then (a := a) (g := O.putAt p o') L (fun T r => OR.lens r e2 hp') h4 h2 h5 fun F2 H2 n2 T T' sf ka nt st ta q => ?_
        simp only [O.putAt, e1]
        exact .tup (ka _ h1) ta q nt st
    | _ => simp [O.at'] at e
  | .fld f :: p, v, o, S, o1, v1, h, e, hp => by
    cases o with
    | obj c fs =>
      cases h with
      | @obj a C dx _ vs _ _ S1 h1 g h2 h3 h4 h5 =>
        simp only [O.at'] at e
        obtain ⟨o', e1, e2⟩ := Option.bind_eq_some_iff.mp e
        obtain ⟨w, hw, L⟩ := h3.lens e1
        have hp' : VP H w p v1 := by
          cases hp with
          | fld x y z => rw [h1] at x; cases x; rw [hw] at y; cases y; exact z
        refine Lens.then (a := a) (g := O.putAt p o') L (fun T r => OR.lens r e2 hp') h4 h2 h5 fun F2 H2 n2 T T' sf ka nt st ta q => ?_
        simp only [O.putAt, e1]
        exact .obj (ka _ h1) g ta q nt st
    | _ => simp [O.at'] at e
/-- .. of a slot's value -/
theorem SE.lens {σ : L2.St} {ρ : En} {S : Rg} (h : SE K G F B H σ ρ S) {i : Nat} {o o1 : O} {p : List Stp} {v0 v : V} (e : ρ[i]? = some (some o)) (ea : O.at' p o = some o1) (ev : σ[i]? = some (some v0)) (hp : VP H v0 p v) :
    Lens K G F B H v o1 S fun F2 H2 o2 T => SE K G F2 B H2 σ (ρ.set i (some (O.putAt p o o2))) T := by
  obtain ⟨w, S1, S2, h1, h2, h3, h4, h5, h6⟩ := h.get e
  rw [ev] at h1
  cases h1
  obtain ⟨U1, Ur, r, d, i1, i2, rb⟩ := OR.lens h2 ea hp
  refine ⟨U1, fun b => Ur b ∨ S2 b, r, fun b z z' => z'.elim (d b z) (h4 b (i1 b z)), fun b z => h5 b (i1 b z), fun b z => z.elim (fun z => h5 b (i2 b z)) (h6 b), fun F2 H2 o2 T sf kp dj r2 => ?_⟩
  have q := rb F2 H2 o2 T sf (fun b u z => kp b u (.inl z)) (fun b z z' => dj b z (.inl z')) r2
  have s2 : SE K G F2 B H2 σ (ρ.set i none) S2 := h3.mono sf (Same.refl _) fun b u z => kp b u (.inr z)
  have := s2.putE ev q fun b z z' => z.elim (fun z => h4 b (i2 b z) z') fun z => dj b z (.inr z')
  rw [List.set_set] at this
  refine this.sub ?_
  rintro b ((z | z) | z)
  · exact .inl (.inl z)
  · exact .inr z
  · exact .inl (.inr z)
end
end Tw
/-! Core12: several values in a row, some of them handed on; changes. -/
namespace Tw
open PySem PySem.Spec L2

section
variable (K : PySem.W.Frag) (G : Str → Option Value)
def MASem (t : TA) (f : En → Option (List O × En)) : Prop := ∀ (F B : Hp) (σ : L2.St) (ρ : En) (H : Hp) (S : Rg) (os : List O) (ρ' : En) (Q : List V → Hp → Prop), SE K G F B H σ ρ S → Oks F B H S → f ρ = some (os, ρ') →
  (∀ vs F' H' S' Sv, Ext F H S F' H' → SE K G F' B H' σ ρ' S' → ORs K G F' B H' vs os Sv → (∀ b, S' b → Sv b → False) → Oks F' B H' S' → Oks F' B H' Sv → (∀ b, S' b ∨ Sv b → S b ∨ H b = none) → Q vs H') → t σ H Q
end
structure PMAX (X : Cx) (es : List Expr) (t : TA) (f : En → Option (List O × En)) : Prop where
  run : PA X es t
  sem : MASem X.K X.mg t f
def maNilF : En → Option (List O × En) := fun ρ => some ([], ρ)
def maConsF (f : En → Option (O × En)) (g : En → Option (List O × En)) : En → Option (List O × En) := fun ρ => (f ρ).bind fun a => (g a.2).bind fun b => some (a.1 :: b.1, b.2)
theorem Oks.or {F B H : Hp} {S S1 : Rg} (a : Oks F B H S) (b : Oks F B H S1) : Oks F B H fun x => S x ∨ S1 x := ⟨a.fs, a.bs, fun x z => z.elim (a.own x) (b.own x), fun x z => z.elim (a.nb x) (b.nb x)⟩
/-- a region outside S stays one's own -/
theorem Oks.keep {F B H F' H' : Hp} {S S1 : Rg} (e : Ext F H S F' H') (o : Oks F B H S) (o1 : Oks F B H S1) (dj : ∀ b, S b → S1 b → False) : Oks F' B H' S1 := by
  refine ⟨e.fs, e.b o, fun x z => ⟨?_, ?_⟩, o1.nb⟩
  · exact e.dom x (o1.own x z).1
  · cases q : F' x with
    | none => rfl
    | some u =>
      rcases e.nw x (by rw [q]; simp) with y | y | y
      · exact absurd (o1.own x z).2 y
      · exact absurd y (o1.own x z).1
      · exact (dj x y z).elim
theorem Ext.kp {F H F' H' : Hp} {S S1 : Rg} (e : Ext F H S F' H') (dj : ∀ b, S b → S1 b → False) : ∀ b u, S1 b → H b = some u → H' b = some u := fun b u z q => e.keep b u q fun y => dj b y z
theorem Ext.free {F H F' H' : Hp} {S : Rg} (e : Ext F H S F' H') {x : Addr} (h : H' x = none) : H x = none := by
  cases q : H x with
  | none => rfl
  | some u => exact absurd h (e.dom x (by rw [q]; simp))
section
variable {K : PySem.W.Frag} {G : Str → Option Value}
theorem masem_nil : MASem K G tNil maNilF := by
  intro F B σ ρ H S os ρ' Q hs ok e q
  cases e
  exact q [] F H S (fun _ => False) (Ext.refl ok.fs) hs .nil (fun _ _ z => z) ok ⟨ok.fs, ok.bs, fun _ z => z.elim, fun _ z => z.elim⟩ fun b z => z.elim .inl fun z => z.elim
theorem masem_cons {ta : TE} {t : TA} {f : En → Option (O × En)} {g : En → Option (List O × En)} (ha : MSem K G ta f) (hb : MASem K G t g) : MASem K G (tCons ta t) (maConsF f g) := by
  intro F B σ ρ H S os ρ' Q hs ok e q
  unfold maConsF at e
  obtain ⟨⟨oa, ρa⟩, ea, e⟩ := Option.bind_eq_some_iff.mp e
  obtain ⟨⟨ob, ρb⟩, eb, e⟩ := Option.bind_eq_some_iff.mp e
  cases e
  refine ha F B σ ρ H S oa ρa _ hs ok ea fun v F1 H1 S1 T1 x1 s1 r1 d1 o1 p1 n1 => ?_
  refine hb F1 B σ ρa H1 S1 ob ρb _ s1 o1 eb fun vs F2 H2 S2 T2 x2 s2 r2 d2 o2 p2 n2 => ?_
  have n2' : ∀ b, S2 b ∨ T2 b → S b ∨ H b = none := fun b z => (n2 b z).elim (fun z => n1 b (.inl z)) fun z => .inr (x1.free z)
  have out : ∀ b, T1 b → ¬ (S2 b ∨ T2 b) := fun b z y => (n2 b y).elim (fun y => d1 b y z) fun y => (p1.own b z).1 y
  refine q (v :: vs) F2 H2 S2 (fun b => T1 b ∨ T2 b) (x1.trans x2 fun b z => n1 b (.inl z)) s2 (.cons (r1.mono x2.fm (Same.refl _) (x2.kp d1)) r2 (fun b z y => out b z (.inr y)) (fun _ z => .inl z) fun _ z => .inr z) ?_ o2 ((Oks.keep x2 o1 p1 d1).or p2) ?_
  · rintro b z (y | y)
    · exact out b y (.inl z)
    · exact d2 b z y
  · rintro b (z | z | z)
    · exact n2' b (.inl z)
    · exact n1 b (.inr z)
    · exact n2' b (.inr z)
/-- an operation on what is handed on -/
def xLM (g : List O → Option O) (f : En → Option (List O × En)) : En → Option (O × En) := fun ρ => (f ρ).bind fun r => (g r.1).map fun o => (o, r.2)
theorem msem_cb {r : List V → Hp → VK → Prop} {g : List O → Option O} {t : TA} {f : En → Option (List O × En)} (hr : RSem K G r g) (ha : MASem K G t f) : MSem K G (tCB r t) (xLM g f) := by
  intro F B σ ρ H S o ρ' Q hs ok e q
  unfold xLM at e
  obtain ⟨⟨os, ρ1⟩, ea, e⟩ := Option.bind_eq_some_iff.mp e
  obtain ⟨o1, eo, e⟩ := Option.map_eq_some_iff.mp e
  cases e
  refine ha F B σ ρ H S os ρ1 _ hs ok ea fun vs F1 H1 S1 T1 x1 s1 r1 d1 o1 p1 n1 => ?_
  refine hr F1 B H1 vs os T1 _ Q o1.fs o1.bs r1 p1.own p1.nb eo fun v F2 H2 T2 p2 r2 w2 n2 => ?_
  have n2' : ∀ b, T2 b → ¬ S1 b := fun b z y => (n2 b z).elim (fun z => d1 b y z) fun z => (o1.own b y).1 z
  refine q v F2 H2 S1 T2 (x1.trans p2.ext fun b z => n1 b (.inl z)) (s1.mono p2.fm (Same.refl _) fun b u _ e => p2.same _ _ e) r2 (fun b z y => n2' b y z) ⟨p2.fs, p2.b o1.bs, o1.own.mono p2, o1.nb⟩ ⟨p2.fs, p2.b o1.bs, w2, fun b z => (n2 b z).elim (p1.nb b) fun z => o1.bs.free z⟩ ?_
  rintro b (z | z)
  · exact n1 b (.inl z)
  · exact (n2 b z).elim (fun z => n1 b (.inr z)) fun z => .inr (x1.free z)
/-- displays as operations -/
theorem rsem_lst : RSem K G (fun xs H Q => xs.length ≤ sizeLine ∧ ∀ p, H p = none → Q (.ref p) (upd H p (.lst xs))) gLst := by
  intro F B H vs os S o Q hF hB rs w nb e q
  unfold gLst at e
  split at e
  · rename_i hz
    cases e
    exact ⟨by rw [rs.length, line_eq]; exact hz, fun p hp => fin_list hF hp rs w q⟩
  · cases e
theorem rsem_tup : RSem K G (fun xs H Q => xs.length ≤ sizeLine ∧ ∀ p, H p = none → Q (.ref p) (upd H p (.tup xs))) Tw.gTup := by
  intro F B H vs os S o Q hF hB rs w nb e q
  unfold Tw.gTup at e
  split at e
  · rename_i hz
    cases e
    refine ⟨by rw [rs.length, line_eq]; exact hz, fun p hp => ?_⟩
    unfold mkTup at q
    split at q
    · rename_i ds hd
      rw [frs_eq hd] at rs
      exact fin_tupF (S := S) hF hp rs.fr_inv q
    · exact fin_tup hF hp rs w q
  · cases e

/-! ### changes -/
def MuSem (K : PySem.W.Frag) (G : Str → Option Value) (r : V → List V → Hp → VK → Prop) (mu : O → List O → Option (O × O)) : Prop :=
  ∀ (F B H : Hp) (v : V) (o : O) (So : Rg) (vs : List V) (os : List O) (Sa : Rg) (res o2 : O) (Q : VK), OR K G F B H v o So → ORs K G F B H vs os Sa → (∀ b, So b → Sa b → False) → Oks F B H So → Oks F B H Sa → mu o os = some (res, o2) →
    (∀ v' F' H' So' Sr, Ext F H So F' H' → OR K G F' B H' v o2 So' → OR K G F' B H' v' res Sr → (∀ b, So' b → Sr b → False) → Oks F' B H' So' → Oks F' B H' Sr → (∀ b, So' b ∨ Sr b → So b ∨ Sa b ∨ H b = none) → Q v' H') → r v vs H Q
def isL : O → Bool
  | .list _ => true
  | _ => false
def isDc : O → Bool
  | .dict _ => true
  | _ => false
theorem OR.tyL {F B H : Hp} {v : V} {o : O} {S : Rg} (h : OR K G F B H v o S) (e : isL o = true) : tyV K "list" v H := by
  cases h with
  | list h1 _ _ _ _ => exact .inl ⟨rfl, _, .inl (.inl h1)⟩
  | _ => simp [isL] at e
theorem OR.tyD {F B H : Hp} {v : V} {o : O} {S : Rg} (h : OR K G F B H v o S) (e : isDc o = true) : tyV K "dict" v H := by
  cases h with
  | dict h1 _ _ => exact .inr (.inr (.inl ⟨rfl, .inl ⟨_, h1⟩⟩))
  | _ => simp [isDc] at e
/-- one object of one's own is written anew -/
theorem upd_ext {F B H : Hp} {S : Rg} {a : Addr} {u : HO} (ok : Oks F B H S) (sa : S a) : Ext F H S F (upd H a u) ∧ Same B (upd H a u) := by
  refine ⟨⟨fun b w e n => by rw [upd_ne fun z => n (by rw [z]; exact sa)]; exact e, fun b h => ?_, Same.refl _, fun b w e => ?_, fun b z => .inl z⟩, fun b w e => ?_⟩
  · by_cases z : b = a
    · rw [z, upd_same]; simp
    · rw [upd_ne z]; exact h
  · by_cases z : b = a
    · rw [z, (ok.own a sa).2] at e; cases e
    · rw [upd_ne z]; exact ok.fs _ _ e
  · by_cases z : b = a
    · rw [z, ok.nb a sa] at e; cases e
    · rw [upd_ne z]; exact ok.bs _ _ e
theorem Oks.upd {F B H : Hp} {S S' : Rg} {a : Addr} {u : HO} (ok : Oks F B H S) (sa : S a) (o2 : Oks F B H S') : Oks F B (upd H a u) S' := by
  obtain ⟨x, y⟩ := upd_ext (u := u) ok sa
  exact ⟨x.fs, y, fun b z => ⟨x.dom b (o2.own b z).1, (o2.own b z).2⟩, o2.nb⟩
theorem Oks.none {F B H : Hp} (f : Same F H) (b : Same B H) : Oks F B H fun _ => False := ⟨f, b, fun _ z => z.elim, fun _ z => z.elim⟩
theorem upd_kp {H : Hp} {a : Addr} {u : HO} {S : Rg} (n : ¬ S a) : ∀ b w, S b → H b = some w → upd H a u b = some w := fun b w z e => by rw [upd_ne fun y => n (by rw [← y]; exact z)]; exact e
theorem Oks.sub {F B H : Hp} {S S' : Rg} (o : Oks F B H S) (s : ∀ b, S' b → S b) : Oks F B H S' := ⟨o.fs, o.bs, o.own.sub s, fun b z => o.nb b (s b z)⟩
theorem ORs.snoc {F B H : Hp} : ∀ {vs ws : List V} {os us : List O} {S S1 : Rg}, ORs K G F B H vs os S → ORs K G F B H ws us S1 → (∀ b, S b → S1 b → False) → ORs K G F B H (vs ++ ws) (os ++ us) fun b => S b ∨ S1 b
  | _, _, _, _, _, _, .nil, h, _ => h.sub fun _ z => .inr z
  | _, _, _, _, _, _, .cons a b c d e, h, dj => by
    refine .cons a (ORs.snoc b h fun x z y => dj x (e x z) y) (fun x z y => y.elim (c x z) fun y => dj x (d x z) y) (fun x z => .inl (d x z)) fun x z => z.elim (fun z => .inl (e x z)) .inr
/-- the list of one's own is written anew, its items from S1 -/
theorem mu_lst {F B H : Hp} {a : Addr} {ys : List V} {os2 : List O} {So S1 Sr : Rg} {w : V} {res : O} {Q : VK} {Sa : Rg} (ok : Oks F B H So) (ha : So a) (r : ORs K G F B H ys os2 S1) (o1 : Oks F B H S1) (n : ¬ S1 a) (rr : OR K G F B H w res Sr) (o2 : Oks F B H Sr) (nr : ¬ Sr a) (dj : ∀ b, S1 b → Sr b → False)
    (i : ∀ b, S1 b ∨ Sr b → So b ∨ Sa b) (q : ∀ v' F' H' So' Sr, Ext F H So F' H' → OR K G F' B H' (.ref a) (.list os2) So' → OR K G F' B H' v' res Sr → (∀ b, So' b → Sr b → False) → Oks F' B H' So' → Oks F' B H' Sr → (∀ b, So' b ∨ Sr b → So b ∨ Sa b ∨ H b = none) → Q v' H') : Q w (upd H a (.lst ys)) := by
  obtain ⟨x, y⟩ := upd_ext (u := .lst ys) ok ha
  refine q w F _ (fun b => b = a ∨ S1 b) Sr x (.list upd_same (.inl rfl) (r.mono (Same.refl _) (Same.refl _) (upd_kp n)) n fun b z => .inr z) (rr.mono (Same.refl _) (Same.refl _) (upd_kp nr)) ?_ ?_ (ok.upd ha o2) ?_
  · rintro b (rfl | z) h
    · exact nr h
    · exact dj b z h
  · refine ok.upd ha ((ok.sub (S' := fun b => b = a) ?_).or o1)
    rintro b rfl
    exact ha
  · rintro b ((rfl | z) | z)
    · exact .inl ha
    · exact (i b (.inl z)).elim .inl fun z => .inr (.inl z)
    · exact (i b (.inr z)).elim .inl fun z => .inr (.inl z)
def muAppend : O → List O → Option (O × O)
  | .list os, [x] => if os.length < LINE then some (.fr .none, .list (os ++ [x])) else none
  | _, _ => none
theorem mu_append : MuSem K G rAppend muAppend := by
  intro F B H v o So vs os Sa res o2 Q h ha dj ok oa e q
  unfold muAppend at e
  split at e
  · rename_i os x
    split at e
    · rename_i hz
      cases e
      cases h with
      | @list a xs _ _ S1 h1 h2 h3 h4 h5 =>
        obtain ⟨y, rfl, r⟩ := ha.one
        refine ⟨a, xs, y, rfl, rfl, h1, by rw [h3.length, line_eq]; exact hz, ?_⟩
        exact mu_lst (Sa := Sa) ok h2 (h3.snoc ha fun b z => dj b (h5 b z)) ((ok.sub h5).or oa) (fun z => z.elim h4 fun z => dj _ h2 z) (.fr .non) (Oks.none ok.fs ok.bs) (fun z => z) (fun _ _ z => z) (fun b z => z.elim (fun z => z.imp_left (h5 b)) fun z => z.elim) q
    · cases e
  · cases e
def muPop : O → List O → Option (O × O)
  | .list os, [] => (os.getLast?).map fun x => (x, .list os.dropLast)
  | _, _ => none
theorem ORs.unsnoc {F B H : Hp} : ∀ {vs : List V} {os : List O} {x : O} {S : Rg}, ORs K G F B H vs (os ++ [x]) S → ∃ vs' v S1 S2, vs = vs' ++ [v] ∧ ORs K G F B H vs' os S1 ∧ OR K G F B H v x S2 ∧ (∀ b, S1 b → S2 b → False) ∧ (∀ b, S1 b → S b) ∧ (∀ b, S2 b → S b)
  | _, [], x, S, h => by
    obtain ⟨v, rfl, r⟩ := h.one
    exact ⟨[], v, fun _ => False, S, rfl, .nil, r, fun _ z => z.elim, fun _ z => z.elim, fun _ z => z⟩
  | _, o :: os, x, S, .cons (S1 := T1) (S2 := T2) a b c d e => by
    obtain ⟨vs', v, U1, U2, rfl, r1, r2, dj, i1, i2⟩ := ORs.unsnoc b
    exact ⟨_ :: vs', v, fun b => T1 b ∨ U1 b, U2, rfl, .cons a r1 (fun b z y => c b z (i1 b y)) (fun _ z => .inl z) (fun _ z => .inr z), r2, fun b z y => z.elim (fun z => c b z (i2 b y)) fun z => dj b z y, fun b z => z.elim (d b) fun z => e b (i1 b z), fun b z => e b (i2 b z)⟩
theorem mu_pop : MuSem K G rPop muPop := by
  intro F B H v o So vs os Sa res o2 Q h ha dj ok oa e q
  unfold muPop at e
  split at e
  · rename_i os
    obtain ⟨x, hx, e⟩ := Option.map_eq_some_iff.mp e
    cases e
    obtain ⟨us, rfl⟩ := List.getLast?_eq_some_iff.mp hx
    cases h with
    | @list a xs _ _ S1 h1 h2 h3 h4 h5 =>
      cases ha
      obtain ⟨vs', w, T1, T2, rfl, r1, r2, d2, i1, i2⟩ := h3.unsnoc
      refine ⟨a, _, w, rfl, rfl, h1, by simp, ?_⟩
      rw [List.dropLast_concat] at q ⊢
      exact mu_lst (Sa := Sa) ok h2 r1 (ok.sub fun b z => h5 b (i1 b z)) (fun z => h4 (i1 _ z)) r2 (ok.sub fun b z => h5 b (i2 b z)) (fun z => h4 (i2 _ z)) d2 (fun b z => .inl (h5 b (z.elim (i1 b) (i2 b)))) q
  · cases e
theorem ORs.erase {F B H : Hp} : ∀ {vs : List V} {os : List O} {S : Rg} {k : Nat} {x : O}, ORs K G F B H vs os S → os[k]? = some x → ∃ v S1 S2, vs[k]? = some v ∧ ORs K G F B H (vs.eraseIdx k) (os.eraseIdx k) S1 ∧ OR K G F B H v x S2 ∧ (∀ b, S1 b → S2 b → False) ∧ (∀ b, S1 b → S b) ∧ (∀ b, S2 b → S b)
  | _, _, S, k, x, .nil, e => by simp at e
  | _, _, S, 0, x, .cons (v := v) (S1 := T1) (S2 := T2) a b c d e', e => by
    simp at e; subst e
    exact ⟨v, T2, T1, rfl, by simpa using b, a, fun b z y => c b y z, e', d⟩
  | _, _, S, k + 1, x, .cons (S1 := T1) (S2 := T2) a b c d e', e => by
    obtain ⟨v, U1, U2, hv, r1, r2, dj, i1, i2⟩ := ORs.erase (k := k) (x := x) b (by simpa using e)
    exact ⟨v, fun b => T1 b ∨ U1 b, U2, by simpa using hv, .cons a r1 (fun b z y => c b z (i1 b y)) (fun _ z => .inl z) (fun _ z => .inr z), r2, fun b z y => z.elim (fun z => c b z (i2 b y)) fun z => dj b z y, fun b z => z.elim (d b) fun z => e' b (i1 b z), fun b z => e' b (i2 b z)⟩
def isSmall (i : Int) : Bool := decide (-(2 ^ 63) ≤ i) && decide (i < 2 ^ 63)
def muPopAt : O → List O → Option (O × O)
  | .list os, [x] => match x.rd with
    | .int i => if isSmall i then (seqIndex? i os.length).bind fun k => (os[k]?).map fun x => (x, .list (os.eraseIdx k)) else none
    | _ => none
  | _, _ => none
theorem mu_popAt : MuSem K G rPopAt muPopAt := by
  intro F B H v o So vs os Sa res o2 Q h ha dj ok oa e q
  unfold muPopAt at e
  split at e
  · rename_i os x
    split at e
    · rename_i i hi
      split at e
      · rename_i hz
        obtain ⟨k, hk, e⟩ := Option.bind_eq_some_iff.mp e
        obtain ⟨y, hy, e⟩ := Option.map_eq_some_iff.mp e
        cases e
        unfold isSmall at hz
        rw [Bool.and_eq_true, decide_eq_true_eq, decide_eq_true_eq] at hz
        cases h with
        | @list a xs _ _ S1 h1 h2 h3 h4 h5 =>
          obtain ⟨y', rfl, r⟩ := ha.one
          have q1 := r.all ok.fs ok.bs
          rw [hi] at q1
          cases q1.int_inv
          obtain ⟨w, T1, T2, hw, r1, r2, d2, i1, i2⟩ := h3.erase hy
          refine ⟨a, _, i, k, w, rfl, rfl, h1, hz.1, hz.2, by rw [h3.length]; exact hk, hw, ?_⟩
          exact mu_lst (Sa := Sa) ok h2 r1 (ok.sub fun b z => h5 b (i1 b z)) (fun z => h4 (i1 _ z)) r2 (ok.sub fun b z => h5 b (i2 b z)) (fun z => h4 (i2 _ z)) d2 (fun b z => .inl (h5 b (z.elim (i1 b) (i2 b)))) q
      · cases e
    · cases e
  · cases e
def muClear : O → List O → Option (O × O)
  | .list _, [] => some (.fr .none, .list [])
  | _, _ => none
theorem mu_clear : MuSem K G rClear muClear := by
  intro F B H v o So vs os Sa res o2 Q h ha dj ok oa e q
  unfold muClear at e
  split at e
  · cases e
    cases h with
    | @list a xs _ _ S1 h1 h2 h3 h4 h5 =>
      cases ha
      exact ⟨a, xs, rfl, rfl, h1, mu_lst (Sa := Sa) ok h2 .nil (Oks.none ok.fs ok.bs) (fun z => z) (.fr .non) (Oks.none ok.fs ok.bs) (fun z => z) (fun _ _ z => z) (fun b z => z.elim (fun z => z.elim) fun z => z.elim) q⟩
  · cases e
/-- x.extend(y), y's list being handed on -/
def muExtend : O → List O → Option (O × O)
  | .list os, [.list us] => if os.length + us.length ≤ LINE then some (.fr .none, .list (os ++ us)) else none
  | _, _ => none
theorem mu_extend : MuSem K G rExtend muExtend := by
  intro F B H v o So vs os Sa res o2 Q h ha dj ok oa e q
  unfold muExtend at e
  split at e
  · rename_i os us
    split at e
    · rename_i hz
      cases e
      obtain ⟨y, rfl, r⟩ := ha.one
      cases h with
      | @list a xs _ _ S1 h1 h2 h3 h4 h5 =>
        cases r with
        | @list b ys _ _ T1 k1 k2 k3 k4 k5 =>
          refine ⟨a, b, xs, ys, rfl, rfl, h1, k1, by rw [h3.length, k3.length, line_eq]; exact hz, ?_⟩
          exact mu_lst (Sa := Sa) ok h2 (h3.snoc k3 fun b z y => dj b (h5 b z) (k5 b y)) ((ok.sub h5).or (oa.sub k5)) (fun z => z.elim h4 fun z => dj _ h2 (k5 _ z)) (.fr .non) (Oks.none ok.fs ok.bs) (fun z => z) (fun _ _ z => z) (fun b z => z.elim (fun z => z.imp (h5 b) (k5 b)) fun z => z.elim) q
    · cases e
  · cases e
/-- x[i] = y, as a change -/
def muSetL : O → List O → Option (O × O)
  | .list os, [i, y] => match i.rd with
    | .int n => (ixN os.length n).map fun j => (.fr .none, .list (os.set j y))
    | _ => none
  | _, _ => none
theorem ORs.set {F B H : Hp} : ∀ {vs : List V} {os : List O} {S S2 : Rg} {k : Nat} {v : V} {x : O}, ORs K G F B H vs os S → OR K G F B H v x S2 → (∀ b, S b → S2 b → False) → ORs K G F B H (vs.set k v) (os.set k x) fun b => S b ∨ S2 b
  | _, _, S, S2, k, v, x, .nil, _, _ => by simpa using ORs.nil
  | _, _, S, S2, 0, v, x, .cons a b c d e, r, dj => .cons r b (fun b z y => dj b (e b y) z) (fun _ z => .inr z) fun b z => .inl (e b z)
  | _, _, S, S2, k + 1, v, x, .cons a b c d e, r, dj => .cons a (ORs.set (k := k) b r fun b z => dj b (e b z)) (fun b z y => y.elim (c b z) fun y => dj b (d b z) y) (fun b z => .inl (d b z)) fun b z => z.elim (fun z => .inl (e b z)) .inr
theorem mu_setL : MuSem K G (fun x vs H Q => ∃ i v, vs = [i, v] ∧ rSetL x i v H fun H' => Q .non H') muSetL := by
  intro F B H v o So vs os Sa res o2 Q h ha dj ok oa e q
  unfold muSetL at e
  split at e
  · rename_i os i y
    split at e
    · rename_i n hn
      obtain ⟨j, hj, e⟩ := Option.map_eq_some_iff.mp e
      cases e
      obtain ⟨vi, vy, T1, T2, rfl, r1, r2, d2, i1, i2⟩ := ha.two
      have q1 := r1.all ok.fs ok.bs
      rw [hn] at q1
      cases q1.int_inv
      cases h with
      | @list a xs _ _ S1 h1 h2 h3 h4 h5 =>
        refine ⟨_, _, rfl, a, xs, n, j, rfl, rfl, h1, by rw [h3.length]; exact hj, ?_⟩
        exact mu_lst (Sa := Sa) ok h2 (h3.set r2 fun b z y => dj b (h5 b z) (i2 b y)) ((ok.sub h5).or (oa.sub i2)) (fun z => z.elim h4 fun z => dj _ h2 (i2 _ z)) (.fr .non) (Oks.none ok.fs ok.bs) (fun z => z) (fun _ _ z => z) (fun b z => z.elim (fun z => z.imp (h5 b) (i2 b)) fun z => z.elim) q
    · cases e
  · cases e
end
end Tw
/-! Core13: changes at places, ghosts. -/
namespace Tw
open PySem PySem.Spec L2

section
variable {K : PySem.W.Frag} {G : Str → Option Value} {P : List Nat}
/-- slot i's own value, changed; its arguments come later, some handed on -/
def xMut (isT : O → Bool) (mu : O → List O → Option (O × O)) (i : Nat) (f : En → Option (List O × En)) : En → Option (O × En) := fun ρ => match ρ[i]? with
  | some (some o) => if isT o then (f ρ).bind fun r => match r.2[i]? with
      | some (some o1) => (mu o1 r.1).map fun y => (y.1, r.2.set i (some y.2))
      | _ => none
    else none
  | _ => none
/-- the whole of a change, from a place -/
theorem mut_at {F B H : Hp} {σ : L2.St} {ρ : En} {S : Rg} {r : V → List V → Hp → VK → Prop} {mu : O → List O → Option (O × O)} (hm : MuSem K G r mu) {i : Nat} {p : List Stp} {o o1 res o2 : O} {v0 v : V} {vs : List V} {os : List O} {Sa : Rg} {Q : VK}
    (hs : SE K G F B H σ ρ S) (ok : Oks F B H S) (e : ρ[i]? = some (some o)) (ea : O.at' p o = some o1) (ev : σ[i]? = some (some v0)) (hp : VP H v0 p v) (ha : ORs K G F B H vs os Sa) (oa : Oks F B H Sa) (dj : ∀ b, S b → Sa b → False) (em : mu o1 os = some (res, o2))
    (q : ∀ v' F' H' S' Sv, Ext F H S F' H' → SE K G F' B H' σ (ρ.set i (some (O.putAt p o o2))) S' → OR K G F' B H' v' res Sv → (∀ b, S' b → Sv b → False) → Oks F' B H' S' → Oks F' B H' Sv → (∀ b, S' b ∨ Sv b → S b ∨ Sa b ∨ H b = none) → Q v' H') : r v vs H Q := by
  obtain ⟨S1, Sr, h1, d1, i1, i2, rb⟩ := hs.lens e ea ev hp
  refine hm F B H v o1 S1 vs os Sa res o2 Q h1 ha (fun b z y => dj b (i1 b z) y) (ok.sub i1) oa em fun v' F' H' So' Sv x r1 r2 d2 o3 o4 n => ?_
  have nr : ∀ b, So' b ∨ Sv b → ¬ Sr b := fun b z y => (n b z).elim (fun z => d1 b z y) fun z => z.elim (dj b (i2 b y)) (ok.own b (i2 b y)).1
  have s2 := rb F' H' o2 So' x.fm (x.kp d1) (fun b z y => nr b (.inl z) y) r1
  have or : Oks F' B H' Sr := Oks.keep x (ok.sub i1) (ok.sub i2) d1
  refine q v' F' H' _ Sv ⟨fun b u e n => x.keep b u e fun z => n (i1 b z), x.dom, x.fm, x.fs, fun b z => (x.nw b z).imp_right fun z => z.imp_right (i1 b)⟩ s2 r2 (fun b z y => z.elim (nr b (.inr y)) fun z => d2 b z y) (or.or o3) o4 ?_
  rintro b ((z | z) | z)
  · exact .inl (i2 b z)
  · exact (n b (.inl z)).imp_left (i1 b)
  · exact (n b (.inr z)).imp_left (i1 b)
theorem msem_mut {T : String} {isT : O → Bool} {r : V → List V → Hp → VK → Prop} {mu : O → List O → Option (O × O)} (i : Nat) {t : TA} {f : En → Option (List O × En)} (hm : MuSem K G r mu) (ty : ∀ {F B H : Hp} {v : V} {o : O} {S : Rg}, OR K G F B H v o S → isT o = true → tyV K T v H) (ha : MASem K G t f) : MSem K G (tBM K T r (tVar i) t) (xMut isT mu i f) := by
  intro F B σ ρ H S o ρ' Q hs ok e q
  unfold xMut at e
  split at e
  · rename_i o0 h0
    split at e
    · rename_i ht
      obtain ⟨⟨os, ρ1⟩, ea, e⟩ := Option.bind_eq_some_iff.mp e
      obtain ⟨v, S1, S2, h1, h2, h3, h4, h5, h6⟩ := hs.get h0
      refine ⟨v, h1, ty h2 ht, ?_⟩
      refine ha F B σ ρ H S os ρ1 _ hs ok ea fun vs F1 H1 T1 Ta x1 s1 r1 d1 o1 p1 n1 => ?_
      split at e
      · rename_i o1' h0'
        obtain ⟨⟨res, o2⟩, em, e⟩ := Option.map_eq_some_iff.mp e
        cases e
        refine mut_at hm s1 o1 h0' (at_nil _) h1 .nil r1 p1 d1 em fun v' F' H' S' Sv x s r d o3 o4 n => ?_
        refine q v' F' H' S' Sv (x1.trans x fun b z => n1 b (.inl z)) (by simpa using s) r d o3 o4 fun b z => ?_
        rcases n b z with z | z | z
        · exact n1 b (.inl z)
        · exact n1 b (.inr z)
        · exact .inr (x1.free z)
      · cases e
    · cases e
  · cases e
/-! #### places -/
variable (K G) in
def PlSem (t : TE) (f : En → Option (Nat × List Stp)) : Prop := ∀ (F B : Hp) (σ : L2.St) (ρ : En) (H : Hp) (S : Rg) (i : Nat) (p : List Stp) (o o1 : O) (Q : VK), SE K G F B H σ ρ S → Oks F B H S → f ρ = some (i, p) → ρ[i]? = some (some o) → O.at' p o = some o1 →
  (∀ v v0 F' H', Pst F H F' H' → σ[i]? = some (some v0) → VP H' v0 p v → Q v H') → t σ H Q
def plV (i : Nat) : En → Option (Nat × List Stp) := fun _ => some (i, [])
def plI (fp : En → Option (Nat × List Stp)) (fi : En → Option O) : En → Option (Nat × List Stp) := fun ρ => (fp ρ).bind fun r => (fi (vw ρ)).bind fun o => match o.rd with
  | .int n => if 0 ≤ n ∧ n < 9223372036854775808 then some (r.1, r.2 ++ [.ix n.toNat]) else none
  | _ => none
theorem plsem_var (i : Nat) : PlSem K G (tVar i) (plV i) := by
  intro F B σ ρ H S j p o o1 Q hs ok e h1 h2 q
  cases e
  obtain ⟨v, S1, S2, k1, _⟩ := hs.get h1
  exact ⟨v, k1, q v v F H (Pst.refl ok.fs) k1 .nil⟩
theorem atI_nat {α : Type} {xs : List α} {n : Nat} {x : α} (h : xs[n]? = some x) : atI xs (n : Int) = some x := by
  have hn := (List.getElem?_eq_some_iff.mp h).1
  unfold atI
  have : ixN xs.length (n : Int) = some n := by
    unfold ixN
    simp
    omega
  rw [this]
  exact h
theorem plsem_ix {tp ti : TE} {fp : En → Option (Nat × List Stp)} {fi : En → Option O} (hp : PlSem K G tp fp) (hi : ESem K G ti fi) : PlSem K G (tOp (rIxX K) tp ti) (plI fp fi) := by
  intro F B σ ρ H S j p o o1 Q hs ok e h1 h2 q
  unfold plI at e
  obtain ⟨⟨j', p'⟩, e1, e⟩ := Option.bind_eq_some_iff.mp e
  obtain ⟨oi, e2, e⟩ := Option.bind_eq_some_iff.mp e
  split at e
  · rename_i n hn
    split at e
    · rename_i hz
      have e := Option.some.inj e
      obtain ⟨ej, ep⟩ := Prod.mk.inj e
      subst ej ep
      rw [at_app] at h2
      obtain ⟨ob, h3, h4⟩ := Option.bind_eq_some_iff.mp h2
      refine hp F B σ ρ H S j' p' o ob _ hs ok e1 h1 h3 fun v v0 F1 H1 p1 ev vp => ?_
      refine hi F1 H σ (vw ρ) H1 oi _ ((hs.view ok.fs ok.bs).mono p1.fm) p1.fs p1.same e2 fun v2 F2 H2 S2 p2 r2 w2 n2 => ?_
      have pp := p1.trans p2
      have q2 := r2.all p2.fs pp.same
      rw [hn] at q2
      cases q2.int_inv
      have s2 : SE K G F2 B H2 σ ρ S := hs.mono pp.fm (Same.refl _) fun b u _ e => pp.same _ _ e
      have vp2 := vp.mono p2.same
      obtain ⟨S1, Sr, r1, _⟩ := s2.lens h1 h3 ev vp2
      obtain ⟨m, rfl⟩ := Int.eq_ofNat_of_zero_le hz.1
      cases ob with
      | list os =>
        simp only [O.at', Int.toNat_natCast] at h4
        obtain ⟨ox, hx, h4⟩ := Option.bind_eq_some_iff.mp h4
        cases r1 with
        | @list a vs _ _ T1 k1 k2 k3 k4 k5 =>
          obtain ⟨w, hw, _⟩ := k3.lens hx
          refine .inl (.inl ⟨a, vs, _, w, rfl, rfl, .inl (.inl k1), atI_nat hw, ?_⟩)
          exact q w v0 F2 H2 pp ev (vp2.app (.ixL k1 hw .nil))
      | tup os =>
        simp only [O.at', Int.toNat_natCast] at h4
        obtain ⟨ox, hx, h4⟩ := Option.bind_eq_some_iff.mp h4
        cases r1 with
        | @tup a vs _ _ T1 k1 k2 k3 k4 k5 =>
          obtain ⟨w, hw, _⟩ := k3.lens hx
          refine .inl (.inr (.inl ⟨a, vs, _, w, rfl, rfl, .inl (.inl k1), atI_nat hw, ?_⟩))
          exact q w v0 F2 H2 pp ev (vp2.app (.ixT k1 hw .nil))
      | _ => simp [O.at'] at h4
    · cases e
  · cases e
/-- a change at a place; its arguments only look -/
def xMutP (isT : O → Bool) (mu : O → List O → Option (O × O)) (fp : En → Option (Nat × List Stp)) (fa : En → Option (List O)) : En → Option (O × En) := fun ρ => (fp ρ).bind fun r => match ρ[r.1]? with
  | some (some o) => (O.at' r.2 o).bind fun o1 => if isT o1 then (fa (vw ρ)).bind fun os => if O.nbs os then (mu o1 os).map fun y => (y.1, ρ.set r.1 (some (O.putAt r.2 o y.2))) else none else none
  | _ => none
theorem msem_mutP {T : String} {isT : O → Bool} {r : V → List V → Hp → VK → Prop} {mu : O → List O → Option (O × O)} {tp : TE} {fp : En → Option (Nat × List Stp)} {t : TA} {f : En → Option (List O)} (hm : MuSem K G r mu) (ty : ∀ {F B H : Hp} {v : V} {o : O} {S : Rg}, OR K G F B H v o S → isT o = true → tyV K T v H) (hp : PlSem K G tp fp) (ha : ASem K G t f) : MSem K G (tBM K T r tp t) (xMutP isT mu fp f) := by
  intro F B σ ρ H S o ρ' Q hs ok e q
  unfold xMutP at e
  obtain ⟨⟨i, p⟩, ep, e⟩ := Option.bind_eq_some_iff.mp e
  simp only at e
  split at e
  · rename_i o0 h0
    obtain ⟨o1, ea, e⟩ := Option.bind_eq_some_iff.mp e
    split at e
    · rename_i ht
      obtain ⟨os, eo, e⟩ := Option.bind_eq_some_iff.mp e
      split at e
      · rename_i hn
        obtain ⟨⟨res, o2⟩, em, e⟩ := Option.map_eq_some_iff.mp e
        cases e
        refine hp F B σ ρ H S i p o0 o1 _ hs ok ep h0 ea fun v v0 F1 H1 p1 ev vp => ?_
        have s1 : SE K G F1 B H1 σ ρ S := hs.mono p1.fm (Same.refl _) fun b u _ e => p1.same _ _ e
        obtain ⟨S1, Sr, r1, _⟩ := s1.lens h0 ea ev vp
        refine ⟨ty r1 ht, ?_⟩
        refine ha F1 H σ (vw ρ) H1 os _ ((hs.view ok.fs ok.bs).mono p1.fm) p1.fs p1.same eo fun vs F2 H2 Sa p2 r2 w2 n2 => ?_
        have pp := p1.trans p2
        have ok2 : Oks F2 B H2 S := ⟨p2.fs, pp.b ok.bs, ok.own.mono pp, ok.nb⟩
        have n3 : ∀ b, Sa b → H b = none := fun b z => p1.same.free (n2 b z)
        refine mut_at hm (hs.mono pp.fm (Same.refl _) fun b u _ e => pp.same _ _ e) ok2 h0 ea ev (vp.mono p2.same) (r2.reB hn) ⟨p2.fs, ok2.bs, w2, fun b z => ok.bs.free (n3 b z)⟩ (fun b z y => (ok.own b z).1 (n3 b y)) em fun v' F' H' S' Sv x s r d o3 o4 n => ?_
        refine q v' F' H' S' Sv (pp.ext.trans x fun b z => .inl z) s r d o3 o4 fun b z => ?_
        rcases n b z with z | z | z
        · exact .inl z
        · exact .inr (n3 b z)
        · exact .inr (pp.same.free z)
      · cases e
    · cases e
  · cases e
/-! #### x[i] = e -/
def sPut (mu : O → List O → Option (O × O)) (fp : En → Option (Nat × List Stp)) (fi : En → Option O) (fe : En → Option (O × En)) : En → Option Res := fun ρ => (fe ρ).bind fun r => (fp r.2).bind fun q => match r.2[q.1]? with
  | some (some o) => (O.at' q.2 o).bind fun o1 => (fi (vw r.2)).bind fun oi => if oi.nb then (mu o1 [oi, r.1]).map fun y => .nx (r.2.set q.1 (some (O.putAt q.2 o y.2))) else none
  | _ => none
theorem ssem_put {te tp ti : TE} {t : TSet} {mu : O → List O → Option (O × O)} {fp : En → Option (Nat × List Stp)} {fi : En → Option O} {fe : En → Option (O × En)} (hm : MuSem K G (fun x vs H Q => ∃ i v, vs = [i, v] ∧ t x i v H fun H' => Q .non H') mu) (he : MSem K G te fe) (hp : PlSem K G tp fp) (hi : ESem K G ti fi) :
    SSem K G P (tAsg te (gSub tp ti t)) (sPut mu fp fi fe) := by
  intro F B σ ρ H S r D hs ok e pst
  unfold sPut at e
  obtain ⟨⟨ov, ρ1⟩, e1, e⟩ := Option.bind_eq_some_iff.mp e
  obtain ⟨⟨i, p⟩, e2, e⟩ := Option.bind_eq_some_iff.mp e
  simp only at e
  split at e
  · rename_i o h0
    obtain ⟨o1, ea, e⟩ := Option.bind_eq_some_iff.mp e
    obtain ⟨oi, e3, e⟩ := Option.bind_eq_some_iff.mp e
    split at e
    · rename_i hn
      obtain ⟨⟨res, o2⟩, em, e⟩ := Option.map_eq_some_iff.mp e
      cases e
      refine he F B σ ρ H S ov ρ1 _ hs ok e1 fun v F1 H1 S1 T1 x1 s1 r1 d1 k1 p1 n1 => ?_
      refine hp F1 B σ ρ1 H1 S1 i p o o1 _ s1 k1 e2 h0 ea fun w w0 F2 H2 p2 ev vp => ?_
      have s2 : SE K G F2 B H2 σ ρ1 S1 := s1.mono p2.fm (Same.refl _) fun b u _ e => p2.same _ _ e
      refine hi F2 H1 σ (vw ρ1) H2 oi _ ((s1.view k1.fs k1.bs).mono p2.fm) p2.fs p2.same e3 fun y F3 H3 Sa p3 r3 w3 n3 => ?_
      have pp := p2.trans p3
      have k3 : Oks F3 B H3 S1 := ⟨p3.fs, pp.b k1.bs, k1.own.mono pp, k1.nb⟩
      have n3' : ∀ b, Sa b → H1 b = none := fun b z => p2.same.free (n3 b z)
      have oa : Oks F3 B H3 Sa := ⟨p3.fs, k3.bs, w3, fun b z => k1.bs.free (n3' b z)⟩
      have ot : Oks F3 B H3 T1 := ⟨p3.fs, k3.bs, p1.own.mono pp, p1.nb⟩
      have ra : ORs K G F3 B H3 [y, v] [oi, ov] fun b => Sa b ∨ T1 b := .cons (S1 := Sa) (S2 := T1) (r3.reB hn) (.cons (S1 := T1) (S2 := fun _ => False) (r1.mono pp.fm (Same.refl _) fun b u _ e => pp.same _ _ e) .nil (fun _ _ z => z) (fun _ z => z) fun _ z => z.elim) (fun b z y => (p1.own b y).1 (n3' b z)) (fun _ z => .inl z) fun _ z => .inr z
      obtain ⟨y', v', exy, hh⟩ := mut_at (Q := fun _ H' => D.nx σ H') hm (s1.mono pp.fm (Same.refl _) fun b u _ e => pp.same _ _ e) k3 h0 ea ev (vp.mono p3.same) ra (oa.or ot) (fun b z y => y.elim (fun y => (k1.own b z).1 (n3' b y)) (d1 b z)) em fun v' F' H' S' Sv x s r d o3 o4 n => by
        refine pst F' H' S' σ (aft_of ((x1.trans pp.ext fun b z => n1 b (.inl z)).trans x fun b z => n1 b (.inl z)) s o3 fun b z => ?_)
        rcases n b (.inl z) with z | (z | z) | z
        · exact n1 b (.inl z)
        · exact .inr (x1.free (n3' b z))
        · exact n1 b (.inr z)
        · exact .inr (x1.free (pp.same.free z))
      cases exy
      exact hh
    · cases e
  · cases e
/-! #### dicts -/
theorem Rk.app {H : Hp} : ∀ {ks js : List (Key × V)} {ds es : List (D × D)}, Rk K G H ks ds → Rk K G H js es → Rk K G H (ks ++ js) (ds ++ es)
  | _, _, _, _, .nil, h => h
  | _, _, _, _, .cons a b, h => .cons a (Rk.app b h)
end
def D.put (kvs : List (D × D)) (k d : D) : List (D × D) := if (D.look kvs k).isSome then kvs.map (fun kv => if D.eqv kv.1 k then (kv.1, d) else kv) else kvs ++ [(k, d)]
section
variable {K : PySem.W.Frag} {G : Str → Option Value} {P : List Nat}
theorem any_look {ks : List (Key × V)} {k : Key} : (ks.any fun kv => decide (kv.1 = k)) = (valV ks k).isSome := by
  induction ks with
  | nil => rfl
  | cons p r ih =>
    by_cases h : p.1 = k
    · rw [valV_pos h]; simp [h]
    · rw [valV_neg h, List.any_cons, ih]; simp [h]
theorem Rk.upd {H : Hp} (k : Key) {v : V} {d : D} (h : R K G H v d) : ∀ {ks : List (Key × V)} {ds : List (D × D)}, Rk K G H ks ds → Rk K G H (ks.map fun kv => if kv.1 = k then (kv.1, v) else kv) (ds.map fun kv => if D.eqv kv.1 (kD k) then (kv.1, d) else kv)
  | _, _, .nil => .nil
  | _, _, .cons (k := k') a t => by
    have e : D.eqv (kD k') (kD k) = decide (k' = k) := eqv_kD _ _
    simp only [List.map_cons, e]
    by_cases z : k' = k
    · simp only [z, if_true, decide_true]
      exact .cons h (Rk.upd k h t)
    · simp only [z, if_false, decide_false, Bool.false_eq_true]
      exact .cons a (Rk.upd k h t)
theorem Rk.put {H : Hp} {ks : List (Key × V)} {ds : List (D × D)} (r : Rk K G H ks ds) (k : Key) {v : V} {d : D} (h : R K G H v d) : Rk K G H (putK ks k v) (D.put ds (kD k) d) := by
  unfold putK D.put
  rw [any_look, r.there k]
  split
  · exact r.upd k h
  · exact r.app (.cons h .nil)
def muPutD : O → List O → Option (O × O)
  | .dict kvs, [k, .fr d] => if k.rd.isKey && decide (kvs.length < LINE) then some (.fr .none, .dict (D.put kvs k.rd d)) else none
  | _, _ => none
theorem mu_putD : MuSem K G (fun x vs H Q => ∃ i v, vs = [i, v] ∧ rSetD x i v H fun H' => Q .non H') muPutD := by
  intro F B H v o So vs os Sa res o2 Q h ha dj ok oa e q
  unfold muPutD at e
  split at e
  · rename_i kvs k d
    split at e
    · rename_i hk
      rw [Bool.and_eq_true, decide_eq_true_eq] at hk
      cases e
      obtain ⟨vk, vd, T1, T2, rfl, r1, r2, d2, i1, i2⟩ := ha.two
      have q1 := r1.all ok.fs ok.bs
      obtain ⟨k', hk'⟩ := isKey_kD hk.1
      rw [hk'] at q1 q
      cases q1.kV
      cases h with
      | @dict a ks _ _ h1 h2 h3 =>
        cases r2 with
        | fr r2 =>
          obtain ⟨x, y⟩ := upd_ext (u := .dK (putK ks k' vd)) ok h2
          refine ⟨_, _, rfl, a, _, rfl, DPut.k h1 (by rw [h3.length, line_eq]; exact hk.2), ?_⟩
          refine q .non F _ (fun b => b = a) (fun _ => False) x (.dict upd_same rfl (h3.put k' r2)) (.fr .non) (fun _ _ z => z) ?_ (Oks.none x.fs y) ?_
          · refine ok.upd h2 (ok.sub (S' := fun b => b = a) ?_)
            rintro b rfl
            exact h2
          · rintro b (rfl | z)
            · exact .inl h2
            · exact z.elim
    · cases e
  · cases e
def gDict : List O → Option O
  | [] => some (.dict [])
  | _ => none
def xNewD : En → Option O := fun _ => some (.dict [])
theorem esem_newD : ESem K G tDNewK xNewD := by
  intro F B σ ρ H o Q hσ hF hB e q
  cases e
  intro p hp
  refine q (.ref p) F _ (fun b => b = p) ⟨fun b u e => ?_, Same.refl _, fun b u e => ?_, fun b z => .inl z⟩ (.dict upd_same rfl .nil) ?_ ?_
  · rw [upd_ne fun z => by rw [z, hp] at e; cases e]; exact e
  · rw [upd_ne fun z => by rw [z] at e; have := hF _ _ e; rw [hp] at this; cases this]; exact hF _ _ e
  · rintro b rfl
    refine ⟨by rw [upd_same]; simp, ?_⟩
    cases e : F b with
    | none => rfl
    | some u => have := hF _ _ e; rw [hp] at this; cases this
  · rintro b rfl
    exact hp
/-! #### ghosts: slot i's value is frozen -/
def frzS (i : Nat) (ρ : En) : Option En := match ρ[i]? with
  | some (some o) => (frz o).map fun o' => ρ.set i (some o')
  | _ => none
def sFz (i : Nat) (f : En → Option Res) : En → Option Res := fun ρ => (frzS i ρ).bind f
theorem SE.frz {F B H : Hp} {σ : L2.St} {ρ ρ' : En} {S : Rg} {i : Nat} (hs : SE K G F B H σ ρ S) (ok : Oks F B H S) (e : frzS i ρ = some ρ') : ∃ F1 S1, Ext F H S F1 H ∧ SE K G F1 B H σ ρ' S1 ∧ Oks F1 B H S1 ∧ ∀ b, S1 b → S b := by
  unfold frzS at e
  split at e
  · rename_i o h
    obtain ⟨o', e1, e⟩ := Option.map_eq_some_iff.mp e
    cases e
    unfold Tw.frz at e1
    split at e1
    · rename_i hn
      cases e1
      obtain ⟨v, S1, S2, h1, h2, h3, h4, h5, h6⟩ := hs.get h
      have o1 := ok.sub h5
      have r : R K G (fold F H S1) v o.rd := h2.nobo (fold_same o1.own) hn fun b u z e => by rw [fold_in z]; exact e
      have s3 := h3.mono (fold_same o1.own) (Same.refl B) (fun b u _ e => e)
      have := s3.putE h1 (OR.fr (S := fun _ => False) r) fun _ z => z.elim
      rw [List.set_set] at this
      refine ⟨_, S2, fold_ext (Ext.refl ok.fs) o1.own fun b z => .inl (h5 b z), this.sub fun b z => z.elim (fun z => z.elim) id, (ok.sub h6).fold o1 fun b z y => h4 b y z, h6⟩
    · cases e1
  · cases e
theorem ssem_fz {t : TS} {f : En → Option Res} (i : Nat) (h : SSem K G P t f) : SSem K G P t (sFz i f) := by
  intro F B σ ρ H S r D hs ok e p
  unfold sFz at e
  obtain ⟨ρ1, e1, e⟩ := Option.bind_eq_some_iff.mp e
  obtain ⟨F1, S1, x, s, o, n⟩ := hs.frz ok e1
  exact h F1 B σ ρ1 H S1 r D s o e (p.trans (aft_of x s o fun b z => .inl (n b z)))
end
end Tw
/-! Core14: one word for each construct; defs. -/
namespace Tw
open PySem PySem.Spec L2

/-! ### operations, named -/
abbrev gSub : List O → Option O := gII gAlw fun i j => .int (i - j)
abbrev gMul : List O → Option O := gII bitsOk fun i j => .int (i * j)
abbrev gDiv : List O → Option O := gII divOk fun i j => .int (i / j)
abbrev gMod : List O → Option O := gII modOk fun i j => .int (i % j)
abbrev gPow : List O → Option O := gII powOk fun i j => .int (i ^ j.toNat)
abbrev gLt : List O → Option O := gII gAlw fun i j => .bool (decide (i < j))
abbrev gLe : List O → Option O := gII gAlw fun i j => .bool (decide (i ≤ j))
abbrev gGt : List O → Option O := gII gAlw fun i j => .bool (decide (j < i))
abbrev gGe : List O → Option O := gII gAlw fun i j => .bool (decide (j ≤ i))
section
variable {X : Cx} {a b c e : Expr} {es : List Expr} {ta tb tc te : TE} {t : TA} {fa fb fc : En → Option O} {f : En → Option (List O)} {pos p p2 : Pos} {tt tu : TT} {ft fu : En → Option Bool}
theorem xAdd (ha : PX X a ta fa) (hb : PX X b tb fb) : PX X (.BinOp a .Add b pos) (tOp rAdd' ta tb) (x2 gAdd fa fb) := ⟨pe_op op_addX ha.run hb.run, esem_op rsem_add ha.sem hb.sem⟩
theorem xSub (ha : PX X a ta fa) (hb : PX X b tb fb) : PX X (.BinOp a .Sub b pos) (tOp (rI0 fun i j => .int (i - j)) ta tb) (x2 gSub fa fb) := ⟨pe_op op_sub ha.run hb.run, esem_op rsem_sub ha.sem hb.sem⟩
theorem xMul (ha : PX X a ta fa) (hb : PX X b tb fb) : PX X (.BinOp a .Mult b pos) (tOp (rI (fun i j => bitsOk i j = true) fun i j => .int (i * j)) ta tb) (x2 gMul fa fb) := ⟨pe_op op_mulX ha.run hb.run, esem_op rsem_rI ha.sem hb.sem⟩
theorem xDiv (ha : PX X a ta fa) (hb : PX X b tb fb) : PX X (.BinOp a .FloorDiv b pos) (tOp (rI (fun i j => divOk i j = true) fun i j => .int (i / j)) ta tb) (x2 gDiv fa fb) := ⟨pe_op op_divX ha.run hb.run, esem_op rsem_rI ha.sem hb.sem⟩
theorem xMod (ha : PX X a ta fa) (hb : PX X b tb fb) : PX X (.BinOp a .Mod b pos) (tOp (rI (fun i j => modOk i j = true) fun i j => .int (i % j)) ta tb) (x2 gMod fa fb) := ⟨pe_op op_modX ha.run hb.run, esem_op rsem_rI ha.sem hb.sem⟩
theorem xPow (ha : PX X a ta fa) (hb : PX X b tb fb) : PX X (.BinOp a .Pow b pos) (tOp (rI (fun i j => powOk i j = true) fun i j => .int (i ^ j.toNat)) ta tb) (x2 gPow fa fb) := ⟨pe_op op_powX ha.run hb.run, esem_op rsem_rI ha.sem hb.sem⟩
theorem xNeg (ha : PX X a ta fa) : PX X (.UnaryOp .USub a pos) (tUn (rU fun i => .int (-i)) ta) (x1 gNeg fa) := ⟨pe_un un_neg ha.run, esem_un rsem_neg ha.sem⟩
theorem xLt (ha : PX X a ta fa) (hb : PX X b tb fb) : PX X (.Compare a [.Lt] [b] pos) (tOp (rI0 fun i j => .bl (decide (i < j))) ta tb) (x2 gLt fa fb) := ⟨pe_cmpR op_lt ha.run hb.run (nomark _), esem_op rsem_rB ha.sem hb.sem⟩
theorem xLe (ha : PX X a ta fa) (hb : PX X b tb fb) : PX X (.Compare a [.LtE] [b] pos) (tOp (rI0 fun i j => .bl (decide (i ≤ j))) ta tb) (x2 gLe fa fb) := ⟨pe_cmpR op_le ha.run hb.run (nomark _), esem_op rsem_rB ha.sem hb.sem⟩
theorem xGt (ha : PX X a ta fa) (hb : PX X b tb fb) : PX X (.Compare a [.Gt] [b] pos) (tOp (rI0 fun i j => .bl (decide (j < i))) ta tb) (x2 gGt fa fb) := ⟨pe_cmpR op_gt ha.run hb.run (nomark _), esem_op rsem_rB ha.sem hb.sem⟩
theorem xGe (ha : PX X a ta fa) (hb : PX X b tb fb) : PX X (.Compare a [.GtE] [b] pos) (tOp (rI0 fun i j => .bl (decide (j ≤ i))) ta tb) (x2 gGe fa fb) := ⟨pe_cmpR op_ge ha.run hb.run (nomark _), esem_op rsem_rB ha.sem hb.sem⟩
theorem xEq {k : Nat} (hr : Room k X.A) (ha : PX X a ta fa) (hb : PX X b tb fb) : PX X (.Compare a [.Eq] [b] pos) (tOp (rEqX X.K) ta tb) (x2 gEq fa fb) := ⟨pe_cmpR (op_eqX (by have := hr.un; omega)) ha.run hb.run (nomark _), esem_op rsem_eq ha.sem hb.sem⟩
theorem xNe {k : Nat} (hr : Room k X.A) (ha : PX X a ta fa) (hb : PX X b tb fb) : PX X (.Compare a [.NotEq] [b] pos) (tOp (rNeX X.K) ta tb) (x2 gNe fa fb) := ⟨pe_cmpR (op_neX (by have := hr.un; omega)) ha.run hb.run (nomark _), esem_op rsem_ne ha.sem hb.sem⟩
theorem xIn {k : Nat} (hr : Room k X.A) (ha : PX X a ta fa) (hb : PX X b tb fb) (hm : behindInMarks .In b = false := by with_unfolding_all rfl) : PX X (.Compare a [.In] [b] pos) (tOp (rInX X.K) ta tb) (x2 (gIn false) fa fb) := ⟨pe_cmpR (op_inX (by have := hr.un; omega)) ha.run hb.run hm, esem_op rsem_in ha.sem hb.sem⟩
theorem xNi {k : Nat} (hr : Room k X.A) (ha : PX X a ta fa) (hb : PX X b tb fb) (hm : behindInMarks .NotIn b = false := by with_unfolding_all rfl) : PX X (.Compare a [.NotIn] [b] pos) (tOp (rNiX X.K) ta tb) (x2 (gIn true) fa fb) := ⟨pe_cmpR (op_niX (by have := hr.un; omega)) ha.run hb.run hm, esem_op rsem_ni ha.sem hb.sem⟩
def xIsN (neg : Bool) (fa : En → Option O) : En → Option O := x1 (fun os => gIsN neg (os ++ [.fr .none])) fa
theorem xIs0 {j p} (ha : PX X a ta fa) : PX X (.Compare a [.Is] [.Constant .none j p] pos) (tIsN ta) (xIsN false fa) := ⟨pe_cmp (pc_isN ha.run) (nomark _), esem_isN ha.sem⟩
theorem xNs0 {j p} (ha : PX X a ta fa) : PX X (.Compare a [.IsNot] [.Constant .none j p] pos) (tNotN ta) (xIsN true fa) := ⟨pe_cmp (pc_notN ha.run) (nomark _), esem_notN ha.sem⟩
theorem xAnd {rest : List Expr} (ha : PX X a ta fa) (hb : PX X (.BoolOp .And (b :: rest) pos) tb fb) : PX X (.BoolOp .And (a :: b :: rest) pos) (tAndV ta tb) (xAndF fa fb) := ⟨pe_and ha.run hb.run, esem_and ha.sem hb.sem⟩
theorem xOr {rest : List Expr} (ha : PX X a ta fa) (hb : PX X (.BoolOp .Or (b :: rest) pos) tb fb) : PX X (.BoolOp .Or (a :: b :: rest) pos) (tOrV ta tb) (xOrF fa fb) := ⟨pe_or ha.run hb.run, esem_or ha.sem hb.sem⟩
theorem xOne {op} (ha : PX X a ta fa) : PX X (.BoolOp op [a] pos) ta fa := ⟨pe_one ha.run, ha.sem⟩
theorem xNot (ha : PX X a ta fa) : PX X (.UnaryOp .Not a pos) (tNotV ta) (xNotF fa) := ⟨pe_not ha.run, esem_not ha.sem⟩
theorem xIf (hc : PTX X c tt ft) (ha : PX X a ta fa) (hb : PX X b tb fb) : PX X (.IfExp c a b pos) (tIf tt ta tb) (xIfF ft fa fb) := ⟨pe_ifExp hc.run ha.run hb.run, esem_if hc.sem ha.sem hb.sem⟩
/-! #### tests -/
structure PWX (X : Cx) (e : Expr) (t : TT) (f : En → Option Bool) : Prop where
  run : PW X e t
  sem : TSem X.K X.mg t f
/-- any value, as a test -/
theorem tVal (ha : PX X a ta fa) (he : ∀ whole, isTrue a X.env whole = (do let v ← whole; standAt a.pos; holding [v] (truthy v)) := by intro _; rfl) : PTX X a (tB ta) (tV fa) := ⟨pt_val ha.run he, tsem_of ha.sem⟩
theorem tLtX (ha : PX X a ta fa) (hb : PX X b tb fb) : PTX X (.Compare a [.Lt] [b] pos) (tTest (tOp (rI0 fun i j => .bl (decide (i < j))) ta tb)) (tV (x2 gLt fa fb)) := ⟨pt_cmpR op_lt ha.run hb.run (nomark _), tsem_of (esem_op rsem_rB ha.sem hb.sem)⟩
theorem tLeX (ha : PX X a ta fa) (hb : PX X b tb fb) : PTX X (.Compare a [.LtE] [b] pos) (tTest (tOp (rI0 fun i j => .bl (decide (i ≤ j))) ta tb)) (tV (x2 gLe fa fb)) := ⟨pt_cmpR op_le ha.run hb.run (nomark _), tsem_of (esem_op rsem_rB ha.sem hb.sem)⟩
theorem tGtX (ha : PX X a ta fa) (hb : PX X b tb fb) : PTX X (.Compare a [.Gt] [b] pos) (tTest (tOp (rI0 fun i j => .bl (decide (j < i))) ta tb)) (tV (x2 gGt fa fb)) := ⟨pt_cmpR op_gt ha.run hb.run (nomark _), tsem_of (esem_op rsem_rB ha.sem hb.sem)⟩
theorem tGeX (ha : PX X a ta fa) (hb : PX X b tb fb) : PTX X (.Compare a [.GtE] [b] pos) (tTest (tOp (rI0 fun i j => .bl (decide (j ≤ i))) ta tb)) (tV (x2 gGe fa fb)) := ⟨pt_cmpR op_ge ha.run hb.run (nomark _), tsem_of (esem_op rsem_rB ha.sem hb.sem)⟩
theorem tEqX {k : Nat} (hr : Room k X.A) (ha : PX X a ta fa) (hb : PX X b tb fb) : PTX X (.Compare a [.Eq] [b] pos) (tTest (tOp (rEqX X.K) ta tb)) (tV (x2 gEq fa fb)) := ⟨pt_cmpR (op_eqX (by have := hr.un; omega)) ha.run hb.run (nomark _), tsem_of (esem_op rsem_eq ha.sem hb.sem)⟩
theorem tNeX {k : Nat} (hr : Room k X.A) (ha : PX X a ta fa) (hb : PX X b tb fb) : PTX X (.Compare a [.NotEq] [b] pos) (tTest (tOp (rNeX X.K) ta tb)) (tV (x2 gNe fa fb)) := ⟨pt_cmpR (op_neX (by have := hr.un; omega)) ha.run hb.run (nomark _), tsem_of (esem_op rsem_ne ha.sem hb.sem)⟩
theorem tInX {k : Nat} (hr : Room k X.A) (ha : PX X a ta fa) (hb : PX X b tb fb) (hm : behindInMarks .In b = false := by with_unfolding_all rfl) : PTX X (.Compare a [.In] [b] pos) (tTest (tOp (rInX X.K) ta tb)) (tV (x2 (gIn false) fa fb)) := ⟨pt_cmpR (op_inX (by have := hr.un; omega)) ha.run hb.run hm, tsem_of (esem_op rsem_in ha.sem hb.sem)⟩
theorem tNiX {k : Nat} (hr : Room k X.A) (ha : PX X a ta fa) (hb : PX X b tb fb) (hm : behindInMarks .NotIn b = false := by with_unfolding_all rfl) : PTX X (.Compare a [.NotIn] [b] pos) (tTest (tOp (rNiX X.K) ta tb)) (tV (x2 (gIn true) fa fb)) := ⟨pt_cmpR (op_niX (by have := hr.un; omega)) ha.run hb.run hm, tsem_of (esem_op rsem_ni ha.sem hb.sem)⟩
theorem tIsX {j p} (ha : PX X a ta fa) : PTX X (.Compare a [.Is] [.Constant .none j p] pos) (tB (tIsN ta)) (tV (xIsN false fa)) := ⟨pt_cmp (pc_isN ha.run) (nomark _), tsem_of (esem_isN ha.sem)⟩
theorem tNsX {j p} (ha : PX X a ta fa) : PTX X (.Compare a [.IsNot] [.Constant .none j p] pos) (tB (tNotN ta)) (tV (xIsN true fa)) := ⟨pt_cmp (pc_notN ha.run) (nomark _), tsem_of (esem_notN ha.sem)⟩
theorem tNotX (ha : PTX X a tt ft) : PTX X (.UnaryOp .Not a pos) (tNot tt) (tNotF ft) := ⟨pt_not ha.run, tsem_not ha.sem⟩
theorem wAnd1 (ha : PTX X a tt ft) : PWX X (.BoolOp .And [a] pos) tt ft := ⟨pw_and1 ha.run, ha.sem⟩
theorem wOr1 (ha : PTX X a tt ft) : PWX X (.BoolOp .Or [a] pos) tt ft := ⟨pw_or1 ha.run, ha.sem⟩
theorem wAnd {rest : List Expr} (ha : PTX X a tt ft) (hb : PWX X (.BoolOp .And (b :: rest) pos) tu fu) : PWX X (.BoolOp .And (a :: b :: rest) pos) (tAnd tt tu) (tAndF ft fu) := ⟨pw_and ha.run hb.run, tsem_and ha.sem hb.sem⟩
theorem wOr {rest : List Expr} (ha : PTX X a tt ft) (hb : PWX X (.BoolOp .Or (b :: rest) pos) tu fu) : PWX X (.BoolOp .Or (a :: b :: rest) pos) (tOr tt tu) (tOrF ft fu) := ⟨pw_or ha.run hb.run, tsem_or ha.sem hb.sem⟩
theorem tW (h : PWX X a tt ft) : PTX X a tt ft := ⟨h.run.pt, h.sem⟩
/-! #### subscripts, displays -/
theorem xIx {k : Nat} (hr : Room k X.A) (ha : PX X a ta fa) (hb : PX X b tb fb) (hs : PlainIx b := by exact fun _ _ => rfl) : PX X (.Subscript a b pos) (tOp (rIxX X.K) ta tb) (x2 gIx fa fb) := ⟨pe_ix (ix_X (by have := hr.un; omega)) ha.run hb.run hs, esem_op rsem_ix ha.sem hb.sem⟩
theorem xSlc {lo hi : Option Expr} {tl th : TO} {fl fh : En → Option (Option Int)} (ha : PX X a ta fa) (hl : POX X lo tl fl) (hh : POX X hi th fh) : PX X (.Subscript a (.Slice lo hi none p2) pos) (tSl (rSlX X.K) ta tl th) (xSl fa fl fh) := ⟨pe_slice sl_X ha.run hl.run hh.run, esem_sl ha.sem hl.sem hh.sem⟩
theorem xLst (h : PAX X es t f) : PX X (.List es pos) (tLst t) (xL gLst f) := ⟨pe_lst h.run, esem_lst h.sem⟩
theorem xTup {j} (h : PAX X es t f) : PX X (.Tuple es j pos) (tTup t) (xL Tw.gTup f) := ⟨pe_tup h.run, esem_tup h.sem⟩
theorem xDic : PX X (.Dict [] [] pos) tDNewK xNewD := ⟨pe_dnewK, esem_newD⟩
/-! #### calls of built-in things -/
theorem xLen (hg : Gl X "len") (hm : X.mg "len" = none) (ha : PX X a ta fa) (hs : starEach [a] X.env = (false, eval a X.env) :: starEach [] X.env := by rfl) : PX X (.Call (.Name "len" p) [a] [] pos) (tCB (rLenX X.K) (tCons ta tNil)) (xL gLen (aCons fa aNil)) :=
  ⟨pe_callB call_lenX hg hm (by decide +kernel) (pa_cons ha.run pa_nil hs) (he := hs), esem_cb rsem_len (asem_cons ha.sem asem_nil)⟩
theorem xInt1 (hg : Gl X "int") (hm : X.mg "int" = none) (ha : PX X a ta fa) (hs : starEach [a] X.env = (false, eval a X.env) :: starEach [] X.env := by rfl) : PX X (.Call (.Name "int" p) [a] [] pos) (tCB (fun xs H Q => (∃ i, xs = [.int i] ∧ Q (.int i) H) ∨ ∃ k, xs = [.bl k] ∧ Q (.int (if k then 1 else 0)) H) (tCons ta tNil)) (xL gInt (aCons fa aNil)) :=
  ⟨pe_callTy call_int1 hg hm (by decide +kernel) (pa_cons ha.run pa_nil hs) (he := hs), esem_cb rsem_int (asem_cons ha.sem asem_nil)⟩
theorem xList (hg : Gl X "list") (hm : X.mg "list" = none) (ha : PX X a ta fa) (hs : starEach [a] X.env = (false, eval a X.env) :: starEach [] X.env := by rfl) : PX X (.Call (.Name "list" p) [a] [] pos) (tCB (fun xs H Q => ∃ p ys, xs = [.ref p] ∧ (SqL X.K H p ys ∨ SqT X.K H p ys) ∧ ∀ l, H l = none → Q (.ref l) (upd H l (.lst ys))) (tCons ta tNil)) (xL gList (aCons fa aNil)) :=
  ⟨pe_callTy call_list_of hg hm (by decide +kernel) (pa_cons ha.run pa_nil hs) (he := hs), esem_cb rsem_list (asem_cons ha.sem asem_nil)⟩
theorem xSum (hc : X.calm = true) (hg : Gl X "sum") (hm : X.mg "sum" = none) (ha : PX X a ta fa) (hs : starEach [a] X.env = (false, eval a X.env) :: starEach [] X.env := by rfl) : PX X (.Call (.Name "sum" p) [a] [] pos) (tCB (rSum X.K) (tCons ta tNil)) (xL (gInts fun ns => some (.int ns.sum)) (aCons fa aNil)) :=
  ⟨pe_callB (cr_sum hc) hg hm (by decide +kernel) (pa_cons ha.run pa_nil hs) (he := hs), esem_cb rsem_sum (asem_cons ha.sem asem_nil)⟩
theorem xMax (hc : X.calm = true) (hg : Gl X "max") (hm : X.mg "max" = none) (ha : PX X a ta fa) (hs : starEach [a] X.env = (false, eval a X.env) :: starEach [] X.env := by rfl) : PX X (.Call (.Name "max" p) [a] [] pos) (tCB (rMax X.K) (tCons ta tNil)) (xL (gInts fun ns => if ns = [] then none else some (.int (maxI ns))) (aCons fa aNil)) :=
  ⟨pe_callB (cr_max hc) hg hm (by decide +kernel) (pa_cons ha.run pa_nil hs) (he := hs), esem_cb rsem_max (asem_cons ha.sem asem_nil)⟩
theorem xMin (hc : X.calm = true) (hg : Gl X "min") (hm : X.mg "min" = none) (ha : PX X a ta fa) (hs : starEach [a] X.env = (false, eval a X.env) :: starEach [] X.env := by rfl) : PX X (.Call (.Name "min" p) [a] [] pos) (tCB (rMin X.K) (tCons ta tNil)) (xL (gInts fun ns => if ns = [] then none else some (.int (minI ns))) (aCons fa aNil)) :=
  ⟨pe_callB (cr_min hc) hg hm (by decide +kernel) (pa_cons ha.run pa_nil hs) (he := hs), esem_cb rsem_min (asem_cons ha.sem asem_nil)⟩
theorem xAll (hc : X.calm = true) (hg : Gl X "all") (hm : X.mg "all" = none) (ha : PX X a ta fa) (hs : starEach [a] X.env = (false, eval a X.env) :: starEach [] X.env := by rfl) : PX X (.Call (.Name "all" p) [a] [] pos) (tCB (rAll X.K) (tCons ta tNil)) (xL (gBools fun ns => .bool (ns.all id)) (aCons fa aNil)) :=
  ⟨pe_callB (cr_all hc) hg hm (by decide +kernel) (pa_cons ha.run pa_nil hs) (he := hs), esem_cb rsem_all (asem_cons ha.sem asem_nil)⟩
theorem xAny (hc : X.calm = true) (hg : Gl X "any") (hm : X.mg "any" = none) (ha : PX X a ta fa) (hs : starEach [a] X.env = (false, eval a X.env) :: starEach [] X.env := by rfl) : PX X (.Call (.Name "any" p) [a] [] pos) (tCB (rAny X.K) (tCons ta tNil)) (xL (gBools fun ns => .bool (ns.any id)) (aCons fa aNil)) :=
  ⟨pe_callB (cr_any hc) hg hm (by decide +kernel) (pa_cons ha.run pa_nil hs) (he := hs), esem_cb rsem_any (asem_cons ha.sem asem_nil)⟩
theorem xMax2 (hc : X.calm = true) (hg : Gl X "max") (hm : X.mg "max" = none) (ha : PX X a ta fa) (hb : PX X b tb fb) (hs : starEach [a, b] X.env = (false, eval a X.env) :: starEach [b] X.env := by rfl) (hs2 : starEach [b] X.env = (false, eval b X.env) :: starEach [] X.env := by rfl) (hpl : (backTo pos (starEach [b] X.env)).any (·.1) = false := by rfl) :
    PX X (.Call (.Name "max" p) [a, b] [] pos) (tCB (fun xs H Q => ∃ i j, xs = [.int i, .int j] ∧ Q (.int (if j > i then j else i)) H) (tCons ta (tCons tb tNil))) (xL gMax2 (aCons fa (aCons fb aNil))) :=
  ⟨pe_callB (call_max2 hc) hg hm (by decide +kernel) (pa_cons ha.run (pa_cons hb.run pa_nil hs2) hs) (he := hs) (hpl := hpl), esem_cb rsem_max2 (asem_cons ha.sem (asem_cons hb.sem asem_nil))⟩
theorem xMin2 (hc : X.calm = true) (hg : Gl X "min") (hm : X.mg "min" = none) (ha : PX X a ta fa) (hb : PX X b tb fb) (hs : starEach [a, b] X.env = (false, eval a X.env) :: starEach [b] X.env := by rfl) (hs2 : starEach [b] X.env = (false, eval b X.env) :: starEach [] X.env := by rfl) (hpl : (backTo pos (starEach [b] X.env)).any (·.1) = false := by rfl) :
    PX X (.Call (.Name "min" p) [a, b] [] pos) (tCB (fun xs H Q => ∃ i j, xs = [.int i, .int j] ∧ Q (.int (if j < i then j else i)) H) (tCons ta (tCons tb tNil))) (xL gMin2 (aCons fa (aCons fb aNil))) :=
  ⟨pe_callB (call_min2 hc) hg hm (by decide +kernel) (pa_cons ha.run (pa_cons hb.run pa_nil hs2) hs) (he := hs) (hpl := hpl), esem_cb rsem_min2 (asem_cons ha.sem (asem_cons hb.sem asem_nil))⟩
/-! #### handing on -/
theorem mNil : PMAX X [] tNil maNilF := ⟨pa_nil, masem_nil⟩
variable {fm : En → Option (O × En)} {fms : En → Option (List O × En)}
theorem mCons (ha : PMX X e te fm) (hr : PMAX X es t fms) (hs : starEach (e :: es) X.env = (false, eval e X.env) :: starEach es X.env := by rfl) : PMAX X (e :: es) (tCons te t) (maConsF fm fms) := ⟨pa_cons ha.run hr.run hs, masem_cons ha.sem hr.sem⟩
theorem mLst (h : PMAX X es t fms) : PMX X (.List es pos) (tLst t) (xLM gLst fms) := ⟨pe_lst h.run, msem_cb rsem_lst h.sem⟩
theorem mTup {j} (h : PMAX X es t fms) : PMX X (.Tuple es j pos) (tTup t) (xLM Tw.gTup fms) := ⟨pe_tup h.run, msem_cb rsem_tup h.sem⟩
/-! #### changes -/
section
variable {x : Str}
theorem mAppend (i : Nat) (ha : PMX X e te fm) (hN : X.N[i]? = some x := by rfl) (hv : Vis X.env.scope x := by first | exact Or.inl rfl | exact Or.inr (Or.inl rfl) | exact Or.inr (Or.inr rfl)) (hd : (x == ("__debug__" : Str)) = false := by decide) (hcd : (x == ("__classdict__" : Str)) = false := by decide)
    (hbase : attributeBase (.Name x p2) "append" X.env (eval (.Name x p2) X.env) = eval (.Name x p2) X.env := by rfl)
    (hfew : ((backTo pos (starEach [e] X.env)).all (fun x => !x.1) && (backToKw pos (keywordEach [] X.env)).all (fun x => x.1.isSome)
      && decide ([e].length + ([] : List Keyword).length + (if ([] : List Keyword).isEmpty then 0 else 1) < 30)) = true := by rfl)
    (hline : (p.endLine == pos.line) = true := by rfl) (hs : starEach [e] X.env = (false, eval e X.env) :: starEach [] X.env := by rfl) :
    PMX X (.Call (.Attribute (.Name x p2) "append" p) [e] [] pos) (tBM X.K "list" rAppend (tVar i) (tCons te tNil)) (xMut isL muAppend i (maConsF fm maNilF)) :=
  ⟨pe_bm PySem.F.plainAttrs_list PySem.F.slot_list_append PySem.F.type_list_append mt_append (pe_var hN hv hd hcd) (pa_cons ha.run pa_nil hs) hbase hfew hline hs, msem_mut i mu_append OR.tyL (masem_cons ha.sem masem_nil)⟩
theorem mExtend (i : Nat) (ha : PMX X e te fm) (hN : X.N[i]? = some x := by rfl) (hv : Vis X.env.scope x := by first | exact Or.inl rfl | exact Or.inr (Or.inl rfl) | exact Or.inr (Or.inr rfl)) (hd : (x == ("__debug__" : Str)) = false := by decide) (hcd : (x == ("__classdict__" : Str)) = false := by decide)
    (hbase : attributeBase (.Name x p2) "extend" X.env (eval (.Name x p2) X.env) = eval (.Name x p2) X.env := by rfl)
    (hfew : ((backTo pos (starEach [e] X.env)).all (fun x => !x.1) && (backToKw pos (keywordEach [] X.env)).all (fun x => x.1.isSome)
      && decide ([e].length + ([] : List Keyword).length + (if ([] : List Keyword).isEmpty then 0 else 1) < 30)) = true := by rfl)
    (hline : (p.endLine == pos.line) = true := by rfl) (hs : starEach [e] X.env = (false, eval e X.env) :: starEach [] X.env := by rfl) :
    PMX X (.Call (.Attribute (.Name x p2) "extend" p) [e] [] pos) (tBM X.K "list" rExtend (tVar i) (tCons te tNil)) (xMut isL muExtend i (maConsF fm maNilF)) :=
  ⟨pe_bm PySem.F.plainAttrs_list PySem.F.slot_list_extend PySem.F.type_list_extend mt_extend (pe_var hN hv hd hcd) (pa_cons ha.run pa_nil hs) hbase hfew hline hs, msem_mut i mu_extend OR.tyL (masem_cons ha.sem masem_nil)⟩
theorem mPopAt (i : Nat) (ha : PMX X e te fm) (hN : X.N[i]? = some x := by rfl) (hv : Vis X.env.scope x := by first | exact Or.inl rfl | exact Or.inr (Or.inl rfl) | exact Or.inr (Or.inr rfl)) (hd : (x == ("__debug__" : Str)) = false := by decide) (hcd : (x == ("__classdict__" : Str)) = false := by decide)
    (hbase : attributeBase (.Name x p2) "pop" X.env (eval (.Name x p2) X.env) = eval (.Name x p2) X.env := by rfl)
    (hfew : ((backTo pos (starEach [e] X.env)).all (fun x => !x.1) && (backToKw pos (keywordEach [] X.env)).all (fun x => x.1.isSome)
      && decide ([e].length + ([] : List Keyword).length + (if ([] : List Keyword).isEmpty then 0 else 1) < 30)) = true := by rfl)
    (hline : (p.endLine == pos.line) = true := by rfl) (hs : starEach [e] X.env = (false, eval e X.env) :: starEach [] X.env := by rfl) :
    PMX X (.Call (.Attribute (.Name x p2) "pop" p) [e] [] pos) (tBM X.K "list" rPopAt (tVar i) (tCons te tNil)) (xMut isL muPopAt i (maConsF fm maNilF)) :=
  ⟨pe_bm PySem.F.plainAttrs_list PySem.F.slot_list_pop PySem.F.type_list_pop mt_popAt (pe_var hN hv hd hcd) (pa_cons ha.run pa_nil hs) hbase hfew hline hs, msem_mut i mu_popAt OR.tyL (masem_cons ha.sem masem_nil)⟩
theorem mPop (i : Nat) (hN : X.N[i]? = some x := by rfl) (hv : Vis X.env.scope x := by first | exact Or.inl rfl | exact Or.inr (Or.inl rfl) | exact Or.inr (Or.inr rfl)) (hd : (x == ("__debug__" : Str)) = false := by decide) (hcd : (x == ("__classdict__" : Str)) = false := by decide)
    (hbase : attributeBase (.Name x p2) "pop" X.env (eval (.Name x p2) X.env) = eval (.Name x p2) X.env := by rfl) (hline : (p.endLine == pos.line) = true := by rfl) :
    PMX X (.Call (.Attribute (.Name x p2) "pop" p) [] [] pos) (tBM0 X.K "list" rPop (tVar i)) (xMut isL muPop i maNilF) :=
  ⟨pe_bm0 PySem.F.plainAttrs_list PySem.F.slot_list_pop PySem.F.type_list_pop mt_pop (pe_var hN hv hd hcd) hbase hline, msem_mut (t := tNil) i mu_pop OR.tyL masem_nil⟩
theorem mClear (i : Nat) (hN : X.N[i]? = some x := by rfl) (hv : Vis X.env.scope x := by first | exact Or.inl rfl | exact Or.inr (Or.inl rfl) | exact Or.inr (Or.inr rfl)) (hd : (x == ("__debug__" : Str)) = false := by decide) (hcd : (x == ("__classdict__" : Str)) = false := by decide)
    (hbase : attributeBase (.Name x p2) "clear" X.env (eval (.Name x p2) X.env) = eval (.Name x p2) X.env := by rfl) (hline : (p.endLine == pos.line) = true := by rfl) :
    PMX X (.Call (.Attribute (.Name x p2) "clear" p) [] [] pos) (tBM0 X.K "list" rClear (tVar i)) (xMut isL muClear i maNilF) :=
  ⟨pe_bm0 PySem.F.plainAttrs_list PySem.F.slot_list_clear PySem.F.type_list_clear mt_clear (pe_var hN hv hd hcd) hbase hline, msem_mut (t := tNil) i mu_clear OR.tyL masem_nil⟩
end
/-- places -/
structure PPX (X : Cx) (e : Expr) (t : TE) (f : En → Option (Nat × List Stp)) : Prop where
  run : PE X e t
  sem : PlSem X.K X.mg t f
theorem qV (i : Nat) {x : Str} (hN : X.N[i]? = some x := by rfl) (hv : Vis X.env.scope x := by first | exact Or.inl rfl | exact Or.inr (Or.inl rfl) | exact Or.inr (Or.inr rfl)) (hd : (x == ("__debug__" : Str)) = false := by decide) (hcd : (x == ("__classdict__" : Str)) = false := by decide) : PPX X (.Name x pos) (tVar i) (plV i) := ⟨pe_var hN hv hd hcd, plsem_var i⟩
theorem qI {k : Nat} {fp : En → Option (Nat × List Stp)} (hr : Room k X.A) (ha : PPX X a ta fp) (hb : PX X b tb fb) (hs : PlainIx b := by exact fun _ _ => rfl) : PPX X (.Subscript a b pos) (tOp (rIxX X.K) ta tb) (plI fp fb) := ⟨pe_ix (ix_X (by have := hr.un; omega)) ha.run hb.run hs, plsem_ix ha.sem hb.sem⟩
theorem mAppendP {fp : En → Option (Nat × List Stp)} (hp : PPX X a ta fp) (ha : PX X e te fb)
    (hbase : attributeBase a "append" X.env (eval a X.env) = eval a X.env := by rfl)
    (hfew : ((backTo pos (starEach [e] X.env)).all (fun x => !x.1) && (backToKw pos (keywordEach [] X.env)).all (fun x => x.1.isSome)
      && decide ([e].length + ([] : List Keyword).length + (if ([] : List Keyword).isEmpty then 0 else 1) < 30)) = true := by rfl)
    (hline : (p.endLine == pos.line) = true := by rfl) (hs : starEach [e] X.env = (false, eval e X.env) :: starEach [] X.env := by rfl) :
    PMX X (.Call (.Attribute a "append" p) [e] [] pos) (tBM X.K "list" rAppend ta (tCons te tNil)) (xMutP isL muAppend fp (aCons fb aNil)) :=
  ⟨pe_bm PySem.F.plainAttrs_list PySem.F.slot_list_append PySem.F.type_list_append mt_append hp.run (pa_cons ha.run pa_nil hs) hbase hfew hline hs, msem_mutP mu_append OR.tyL hp.sem (asem_cons ha.sem asem_nil)⟩
end
section
variable {X : Cx} {P : List Nat} {a b e : Expr} {ta tb te : TE} {fb : En → Option O} {fm : En → Option (O × En)} {fp : En → Option (Nat × List Stp)} {pos p : Pos}
/-- a[b] = e, a list -/
theorem kPutL (he : PMX X e te fm) (hp : PPX X a ta fp) (hb : PX X b tb fb)
    (ha : ∀ v, assign (.Subscript a b p) X.env v = (do
      let ov ← holding [v] (eval a X.env)
      let iv ← holding [v, ov] (eval b X.env)
      standAt p
      holding [v, ov, iv] (setItem ov iv v)
      release [v, ov, iv] []) := by intro _; rfl) (hs : swapsWithSole [.Subscript a b p] e pos.line X.env = pure false := by rfl) (hw : swappedStores [.Subscript a b p] e X.env = pure none := by rfl)
    (h1 : (assignEach [.Subscript a b p] X.env).map (·.2) = [assign (.Subscript a b p) X.env] := by rfl) : PSX X P (.Assign [.Subscript a b p] e pos) (tAsg te (L2.gSub ta tb rSetL)) (sPut muSetL fp fb fm) :=
  ⟨ps_asg he.run (pg_sub hp.run hb.run set_list ha) hs hw h1, ssem_put mu_setL he.sem hp.sem hb.sem⟩
/-- a[b] = e, a dict -/
theorem kPutD {k : Nat} (hr : Room k X.A) (he : PMX X e te fm) (hp : PPX X a ta fp) (hb : PX X b tb fb)
    (ha : ∀ v, assign (.Subscript a b p) X.env v = (do
      let ov ← holding [v] (eval a X.env)
      let iv ← holding [v, ov] (eval b X.env)
      standAt p
      holding [v, ov, iv] (setItem ov iv v)
      release [v, ov, iv] []) := by intro _; rfl) (hs : swapsWithSole [.Subscript a b p] e pos.line X.env = pure false := by rfl) (hw : swappedStores [.Subscript a b p] e X.env = pure none := by rfl)
    (h1 : (assignEach [.Subscript a b p] X.env).map (·.2) = [assign (.Subscript a b p) X.env] := by rfl) : PSX X P (.Assign [.Subscript a b p] e pos) (tAsg te (L2.gSub ta tb rSetD)) (sPut muPutD fp fb fm) :=
  ⟨ps_asg he.run (pg_sub hp.run hb.run (set_dict (by have := hr.un; omega)) ha) hs hw h1, ssem_put mu_putD he.sem hp.sem hb.sem⟩
theorem kFz {st : Stmt} {t : TS} {f : En → Option Res} (i : Nat) (h : PSX X P st t f) : PSX X P st t (sFz i f) := ⟨h.run, ssem_fz i h.sem⟩
theorem iopX : PIp X .Add (rI0 fun i j => .int (i + j)) := iop_add
theorem iopS : PIp X .Sub (rI0 fun i j => .int (i - j)) := iop_sub
theorem iopM : PIp X .Mult (rI (fun i j => bitsOk i j = true) fun i j => .int (i * j)) := opI fun _ _ _ _ _ _ _ hc q => PyProof.Rows.imul_int q (bitsOk.ok hc)
theorem iopD : PIp X .FloorDiv (rI (fun i j => divOk i j = true) fun i j => .int (i / j)) := opI fun i j _ _ _ _ _ hc q => by
  simp only [divOk, Bool.and_eq_true, decide_eq_true_eq] at hc
  have h1 : (0 : Int) < j := hc.1
  exact PyProof.Rows.ifloordiv_int (by omega) (by rw [Int.fdiv_eq_ediv_of_nonneg i (by omega)]; exact q) (.inl (PyProof.noPylong_of_log2 hc.2))
abbrev gAddI : List O → Option O := gII gAlw fun i j => .int (i + j)
theorem rsem_addI {K G} : RSem K G (fun vs H Q => ∃ x y, vs = [x, y] ∧ (rI0 fun i j => .int (i + j)) x y H Q) gAddI := rsem_II (v := fun i j => .int (i + j)) (fun _ _ _ => .int _) fun i j H Q _ q => ⟨i, j, rfl, rfl, q⟩
theorem kIncr (i : Nat) {x : Str} {pos' : Pos} (hN : X.N.Nodup) (h : PMX X e te fm) (hp : i ∉ P := by decide) (hi : X.N[i]? = some x := by rfl) (hx : Loc X.env.scope x := by first | exact .inl rfl | exact .inr rfl)
    (hf : X.fn x = true ∨ X.env.scope.names.lookup x = some .local := by first | exact .inl rfl | exact .inr rfl) : PSX X P (.AugAssign (.Name x pos') .Add e pos) (tAug i te (rI0 fun i j => .int (i + j))) (sAug i gAddI fm) := kAug i hN iopX rsem_addI h hp hi hx hf
theorem kDecr (i : Nat) {x : Str} {pos' : Pos} (hN : X.N.Nodup) (h : PMX X e te fm) (hp : i ∉ P := by decide) (hi : X.N[i]? = some x := by rfl) (hx : Loc X.env.scope x := by first | exact .inl rfl | exact .inr rfl)
    (hf : X.fn x = true ∨ X.env.scope.names.lookup x = some .local := by first | exact .inl rfl | exact .inr rfl) : PSX X P (.AugAssign (.Name x pos') .Sub e pos) (tAug i te (rI0 fun i j => .int (i - j))) (sAug i gSub fm) := kAug i hN iopS rsem_sub h hp hi hx hf
theorem kIMul (i : Nat) {x : Str} {pos' : Pos} (hN : X.N.Nodup) (h : PMX X e te fm) (hp : i ∉ P := by decide) (hi : X.N[i]? = some x := by rfl) (hx : Loc X.env.scope x := by first | exact .inl rfl | exact .inr rfl)
    (hf : X.fn x = true ∨ X.env.scope.names.lookup x = some .local := by first | exact .inl rfl | exact .inr rfl) : PSX X P (.AugAssign (.Name x pos') .Mult e pos) (tAug i te (rI (fun i j => bitsOk i j = true) fun i j => .int (i * j))) (sAug i gMul fm) := kAug i hN iopM rsem_rI h hp hi hx hf
theorem kIDiv (i : Nat) {x : Str} {pos' : Pos} (hN : X.N.Nodup) (h : PMX X e te fm) (hp : i ∉ P := by decide) (hi : X.N[i]? = some x := by rfl) (hx : Loc X.env.scope x := by first | exact .inl rfl | exact .inr rfl)
    (hf : X.fn x = true ∨ X.env.scope.names.lookup x = some .local := by first | exact .inl rfl | exact .inr rfl) : PSX X P (.AugAssign (.Name x pos') .FloorDiv e pos) (tAug i te (rI (fun i j => divOk i j = true) fun i j => .int (i / j))) (sAug i gDiv fm) := kAug i hN iopD rsem_rI h hp hi hx hf
end
end Tw
/-! Core15: comprehensions set to a name; defs. -/
namespace Tw
open PySem PySem.Spec PyProof.Rows L2

section
variable {X : Cx} {P : List Nat} {elt tg iter : Expr} {ifs : List Expr} {scope : Scope} {own : List (Str × Nat)} {pos : Pos} {ta : TA} {ri : RI} {fa : En → Option (List O)} {gi : List O → Option (List O)} {g : TG} {tt : TT} {te : TE} {u : O → Option Ups} {ks : List Nat} {ft : En → Option Bool} {fe : En → Option O} {y : Str} {py spos : Pos}
theorem kSetC (i : Nat) (hc : X.calm = true) (hN : X.N.Nodup) (hi : PJX X tg iter ta ri fa gi) (ok : BlkOk X.N X.env.scope scope own)
    (hg : ∀ (s : Shared) (H : Hp) (C : Addr) (cl : List (Str × Addr)) (fp : List Addr), PGX (X.blk s H scope (compEnvC scope cl C X.env) fp) tg g u ks)
    (ht : ∀ (s : Shared) (H : Hp) (C : Addr) (cl : List (Str × Addr)) (fp : List Addr), PTsX (X.blk s H scope (compEnvC scope cl C X.env) fp) ifs tt ft)
    (he : ∀ (s : Shared) (H : Hp) (C : Addr) (cl : List (Str × Addr)) (fp : List Addr), PX (X.blk s H scope (compEnvC scope cl C X.env) fp) elt te fe) (hk : ∀ k ∈ ks, k ∈ own.map (·.2) := by decide)
    (hp : i ∉ P := by decide) (hy : X.N[i]? = some y := by rfl) (hyl : X.env.scope.names.lookup y = some .local := by rfl)
    (hsw : swapsWith (.ListComp elt [⟨tg, iter, ifs, 0⟩] scope pos) (some (.Name y py)) spos.line X.env = pure true := by exact sw_true rfl rfl rfl (by decide +kernel)) (hs : ∀ x, foldedSetIterable iter X.env x = pure x := by intro _; rfl) :
    PSX X P (.Assign [.Name y py] (.ListComp elt [⟨tg, iter, ifs, 0⟩] scope pos) spos) (tAsg (tLc (wiOf ta ri) g tt te (own.map (·.2))) (gName i)) (sSet i (frzM (liftM (xLc (xJ fa gi) u ft fe (own.map (·.2)))))) :=
  ⟨ps_setLc hc hN hy hyl hsw hi.run ok (fun s H C cl fp => (hg s H C cl fp).run) (fun s H C cl fp => (ht s H C cl fp).run) (fun s H C cl fp => (he s H C cl fp).run) hs,
   ssem_set (msem_frz (msem_lift (esem_lc (isem_of hi.asem hi.rsem) (hg X.s_0 X.H_0 0 [] []).sem (ht X.s_0 X.H_0 0 [] []).sem (he X.s_0 X.H_0 0 [] []).sem hk))) hp⟩
theorem kSetCo (i : Nat) (hc : X.calm = true) (hN : X.N.Nodup) (hi : PJX X tg iter ta ri fa gi) (ok : BlkOk X.N X.env.scope scope own)
    (hg : ∀ (s : Shared) (H : Hp) (C : Addr) (cl : List (Str × Addr)) (fp : List Addr), PGX (X.blk s H scope (compEnvC scope cl C X.env) fp) tg g u ks)
    (ht : ∀ (s : Shared) (H : Hp) (C : Addr) (cl : List (Str × Addr)) (fp : List Addr), PTsX (X.blk s H scope (compEnvC scope cl C X.env) fp) ifs tt ft)
    (he : ∀ (s : Shared) (H : Hp) (C : Addr) (cl : List (Str × Addr)) (fp : List Addr), PX (X.blk s H scope (compEnvC scope cl C X.env) fp) elt te fe) (hk : ∀ k ∈ ks, k ∈ own.map (·.2) := by decide)
    (hp : i ∉ P := by decide) (hy : X.N[i]? = some y := by rfl) (hyl : X.env.scope.names.lookup y = some .local := by rfl)
    (hsw : swapsWith (.ListComp elt [⟨tg, iter, ifs, 0⟩] scope pos) (some (.Name y py)) spos.line X.env = pure true := by exact sw_true rfl rfl rfl (by decide +kernel)) (hs : ∀ x, foldedSetIterable iter X.env x = pure x := by intro _; rfl) :
    PSX X P (.Assign [.Name y py] (.ListComp elt [⟨tg, iter, ifs, 0⟩] scope pos) spos) (tAsg (tLc (wiOf ta ri) g tt te (own.map (·.2))) (gName i)) (sSet i (liftM (xLc (xJ fa gi) u ft fe (own.map (·.2))))) :=
  ⟨ps_setLc hc hN hy hyl hsw hi.run ok (fun s H C cl fp => (hg s H C cl fp).run) (fun s H C cl fp => (ht s H C cl fp).run) (fun s H C cl fp => (he s H C cl fp).run) hs,
   ssem_set (msem_lift (esem_lc (isem_of hi.asem hi.rsem) (hg X.s_0 X.H_0 0 [] []).sem (ht X.s_0 X.H_0 0 [] []).sem (he X.s_0 X.H_0 0 [] []).sem hk)) hp⟩
end

/-! ### defs -/
def env0 (n np : Nat) (os : List O) : En := os.map some ++ List.replicate (n - np) none
/-- a def that changes nothing of what it is given -/
def fnP (n np : Nat) (f : En → Option Res) : Fun1 := fun os => if os.length = np ∧ os.all O.lent = true then
    match f (env0 n np os) with
    | some (.nx _) => some (.fr .none, os)
    | some (.rt o _) => if o.nb then some (o, os) else none
    | _ => none
  else none
def outs : Nat → En → Option (List O)
  | 0, _ => some []
  | n + 1, some o :: ρ => (outs n ρ).map (o :: ·)
  | _, _ => none
/-- a def that may change what it is given -/
def fnM (n np : Nat) (f : En → Option Res) : Fun1 := fun os => if os.length = np then
    match f (env0 n np os) with
    | some (.nx ρ) => (outs np ρ).map fun us => (.fr .none, us)
    | some (.rt o ρ) => if o.nb then (outs np ρ).map fun us => (o, us) else none
    | _ => none
  else none
section
variable {K : PySem.W.Frag} {G : Str → Option Value} {F B H : Hp}
theorem SE.nones : ∀ (n : Nat) {S : Rg}, SE K G F B H (List.replicate n none) (List.replicate n none) S
  | 0, _ => .nil
  | n + 1, _ => .no (SE.nones n)
theorem SE.start : ∀ {vs : List V} {os : List O} {S : Rg} (n : Nat), ORs K G F B H vs os S → SE K G F B H (vs.map some ++ List.replicate n none) (os.map some ++ List.replicate n none) S
  | _, _, _, n, .nil => SE.nones n
  | _, _, _, n, .cons a b c d e => .yes a (SE.start n b) c d e
theorem SE.outs : ∀ {n : Nat} {vs : List V} {σ : L2.St} {ρ : En} {os : List O} {S : Rg}, SE K G F B H σ ρ S → Tw.outs n ρ = some os → vs.length = n → (∀ i < n, σ[i]? = (vs.map some)[i]?) → ORs K G F B H vs os S
  | 0, [], _, _, _, _, _, e, _, _ => by cases e; exact .nil
  | n + 1, [], _, _, _, _, _, _, l, _ => by cases l
  | n + 1, v :: vs, _, [], _, _, _, e, _, _ => by cases e
  | n + 1, v :: vs, _, none :: ρ, _, _, _, e, _, _ => by cases e
  | n + 1, v :: vs, _, some o :: ρ, _, S, .yes a b c d f, e, l, q => by
    simp only [Tw.outs] at e
    obtain ⟨us, e1, e⟩ := Option.map_eq_some_iff.mp e
    subst e
    have q0 := q 0 (by omega)
    simp at q0
    subst q0
    exact .cons a (SE.outs b e1 (by simpa using l) fun i hi => by simpa using q (i + 1) (by omega)) c d f
end
structure FnX (P : Program) (w : World) (K : PySem.W.Frag) (mg : Str → Option Value) (base : Heap) (x : Str) (k : Nat) (fn : Fun1) : Prop where
  ex : ∃ f fd ps, FnOk P w K mg base CX0 k f fd ps (Spg K mg fn) ∧ mg x = some (.ref f) ∧ PySem.W.keepIn K (.ref f) = true ∧ Binds K fd ps []
/-- the def x stands in its place -/
def Got (K : PySem.W.Frag) (mg : Str → Option Value) (x : Str) (st : Stmt) : Prop := ∃ f fd, FunD K x x (defArgs st) (defBody st) (defScope st) [] [] f fd ∧ mg x = some (.ref f)
section
variable {P : Program} {w : World} {K : PySem.W.Frag} {mg : Str → Option Value} {base : Heap} {x : Str} {st : Stmt} {N ps : List Str} {k : Nat} {f : En → Option Res}
theorem fnOk_pure {fa : Addr} {fd : FuncData} (FD : FunD K x x (defArgs st) (defBody st) (defScope st) [] [] fa fd) (S : FnScope N ps (defScope st))
    (hb : ∀ (cdv : Value) (A : Around) (outer : List Env) (s : Shared) (H : Hp) (E : XK), Room k (A.deeper (envOfC x (defScope st) s.heap.objs.size fa cdv)) → ∃ t, PSsX (cxOf CX0 P w K mg base N x (defScope st) fa cdv A outer s H E).nox [] (defBody st) t f) :
    FnOk P w K mg base CX0 (k + 1) fa fd ps (Spg K mg (fnP N.length ps.length f)) := by
  refine FD.ok S (fun vs H Q E h => ?_) fun cdv A outer s H vs Q E hr h => ?_
  · obtain ⟨F, B, os, S, o, os', rs, _, _, _, _, e, _⟩ := h
    unfold fnP at e
    split at e
    · rename_i hl; rw [rs.length]; exact hl.1
    · cases e
  · obtain ⟨t, T⟩ := hb cdv A outer s H E hr
    refine ⟨t, T.run.nox, ?_⟩
    obtain ⟨F, B, os, S, o, os', rs, hF, hB, ow, nb, e, q⟩ := h
    unfold fnP at e
    split at e
    · rename_i hl
      have rl := rs.lent (S' := fun _ => False) hl.2
      have s0 : SE K mg F B H (L2.start N vs) (env0 N.length ps.length os) fun _ => False := by
        unfold L2.start env0
        rw [rs.length, hl.1]
        exact SE.start _ rl
      have fin : ∀ {F' H' : Hp} {S' : Rg}, Ext F H (fun _ => False) F' H' → Ext F H S F' H' ∧ ORs K mg F' B H' vs os (fun _ => False) := fun {F' H' S'} x =>
        ⟨⟨fun b u e _ => x.keep b u e fun z => z, x.dom, x.fm, x.fs, fun b z => (x.nw b z).imp_right fun z => z.elim .inl fun z => z.elim⟩, rl.mono x.fm (Same.refl _) fun _ _ z => z.elim⟩
      split at e
      · rename_i ρ' er
        cases e
        refine T.sem F B _ _ H (fun _ => False) _ _ s0 (Oks.none hF hB) er fun F' H' S' σ' a => ?_
        obtain ⟨x, r⟩ := fin (S' := S') a.ext
        exact q .non F' H' (fun _ => False) (fun _ => False) x (.fr .non) r (fun _ z => z.elim) (fun _ z => z.elim) (fun _ z => z.elim) (fun b z => z.elim (fun z => z.elim) fun z => z.elim) rfl
      · rename_i o' ρ' er
        split at e
        · rename_i hn
          cases e
          refine T.sem F B _ _ H (fun _ => False) _ _ s0 (Oks.none hF hB) er fun v F' H' S' Sv σ' a r dj o2 n => ?_
          obtain ⟨x, rr⟩ := fin (S' := S') a.ext
          exact q v F' H' Sv (fun _ => False) x r rr (fun _ _ z => z) o2.own (fun _ z => z.elim) (fun b z => z.elim (fun z => .inr ((n b z).elim (fun z => z.elim) id)) fun z => z.elim) hn
        · cases e
      · cases e
    · cases e
theorem fnX_pure (W : Got K mg x st) (S : FnScope N ps (defScope st))
    (hb : ∀ (fa : Addr) (cdv : Value) (A : Around) (outer : List Env) (s : Shared) (H : Hp) (E : XK), Room k (A.deeper (envOfC x (defScope st) s.heap.objs.size fa cdv)) → ∃ t, PSsX (cxOf CX0 P w K mg base N x (defScope st) fa cdv A outer s H E).nox [] (defBody st) t f)
    (bi : ∀ (kV doc pm : Value) (an : Option Addr) (cdv ct : Value) (us : List Value), us.length = ps.length → bindArgs (PySem.W.fnOf x x (defArgs st) (defBody st) (defScope st) .none kV doc pm an cdv ct) ⟨us, []⟩ = pure (ps.zip us)) : FnX P w K mg base x (k + 1) (fnP N.length ps.length f) := by
  obtain ⟨fa, fd, FD, hm⟩ := W
  exact ⟨fa, fd, ps, fnOk_pure FD S (hb fa), hm, FD.kp, FD.bindsN bi⟩
theorem fnX_mut (W : Got K mg x st) (S : FnScope N ps (defScope st))
    (hb : ∀ (fa : Addr) (cdv : Value) (A : Around) (outer : List Env) (s : Shared) (H : Hp) (E : XK), Room k (A.deeper (envOfC x (defScope st) s.heap.objs.size fa cdv)) → ∃ t, PSsX (cxOf CX0 P w K mg base N x (defScope st) fa cdv A outer s H E).nox (List.range ps.length) (defBody st) t f)
    (bi : ∀ (kV doc pm : Value) (an : Option Addr) (cdv ct : Value) (us : List Value), us.length = ps.length → bindArgs (PySem.W.fnOf x x (defArgs st) (defBody st) (defScope st) .none kV doc pm an cdv ct) ⟨us, []⟩ = pure (ps.zip us)) : FnX P w K mg base x (k + 1) (fnM N.length ps.length f) := by
  obtain ⟨fa, fd, FD, hm⟩ := W
  refine ⟨fa, fd, ps, ?_, hm, FD.kp, FD.bindsN bi⟩
  refine FD.ok S (fun vs H Q E h => ?_) fun cdv A outer s H vs Q E hr h => ?_
  · obtain ⟨F, B, os, S, o, os', rs, _, _, _, _, e, _⟩ := h
    unfold fnM at e
    split at e
    · rename_i hl; rw [rs.length]; exact hl
    · cases e
  · obtain ⟨t, T⟩ := hb fa cdv A outer s H E hr
    refine ⟨t, T.run.nox, ?_⟩
    obtain ⟨F, B, os, S, o, os', rs, hF, hB, ow, nb, e, q⟩ := h
    unfold fnM at e
    split at e
    · rename_i hl
      have lv : vs.length = ps.length := by rw [rs.length]; exact hl
      have s0 : SE K mg F B H (L2.start N vs) (env0 N.length ps.length os) S := by
        unfold L2.start env0
        rw [rs.length, hl]
        exact SE.start _ rs
      have pr : ∀ {σ' : L2.St}, (∀ i ∈ List.range ps.length, σ'[i]? = (L2.start N vs)[i]?) → ∀ i < ps.length, σ'[i]? = (vs.map some)[i]? := fun {σ'} h i hi => by
        rw [h i (List.mem_range.mpr hi)]
        unfold L2.start
        rw [List.getElem?_append_left (by rw [List.length_map, lv]; exact hi)]
      split at e
      · rename_i ρ' er
        obtain ⟨us, eu, e⟩ := Option.map_eq_some_iff.mp e
        cases e
        refine T.sem F B _ _ H S _ _ s0 ⟨hF, hB, ow, nb⟩ er fun F' H' S' σ' a => ?_
        exact q .non F' H' (fun _ => False) S' a.ext (.fr .non) (a.se.outs eu lv (pr a.prot)) (fun _ z => z.elim) (fun _ z => z.elim) a.ok.own (fun b z => z.elim (fun z => z.elim) (a.sub b)) rfl
      · rename_i o' ρ' er
        split at e
        · rename_i hn
          obtain ⟨us, eu, e⟩ := Option.map_eq_some_iff.mp e
          cases e
          refine T.sem F B _ _ H S _ _ s0 ⟨hF, hB, ow, nb⟩ er fun v F' H' S' Sv σ' a r dj o2 n => ?_
          exact q v F' H' Sv S' a.ext r (a.se.outs eu lv (pr a.prot)) (fun b z y => dj b y z) o2.own a.ok.own (fun b z => z.elim (n b) (a.sub b)) hn
        · cases e
      · cases e
    · cases e
/-- a def that cannot be called (the end of a descent) -/
theorem fnX_never (W : Got K mg x st) (S : FnScope N ps (defScope st)) (bi : ∀ (kV doc pm : Value) (an : Option Addr) (cdv ct : Value) (us : List Value), us.length = ps.length → bindArgs (PySem.W.fnOf x x (defArgs st) (defBody st) (defScope st) .none kV doc pm an cdv ct) ⟨us, []⟩ = pure (ps.zip us)) : FnX P w K mg base x (k + 1) fun _ => none := by
  obtain ⟨fa, fd, FD, hm⟩ := W
  refine ⟨fa, fd, ps, ?_, hm, FD.kp, FD.bindsN bi⟩
  refine FD.ok S (fun vs H Q E h => ?_) fun cdv A outer s H vs Q E hr h => ?_
  · obtain ⟨F, B, os, S, o, os', rs, _, _, _, _, e, _⟩ := h
    cases e
  · obtain ⟨F, B, os, S, o, os', rs, _, _, _, _, e, _⟩ := h
    cases e
end
section
variable {X : Cx} {k k' : Nat} {x : Str} {p pos : Pos} {e : Expr} {es : List Expr} {t : TA} {fn : Fun1} {fa : En → Option (List O)} {fm : En → Option (List O × En)}
theorem xCal (F : FnX X.prog X.w X.K X.mg X.base x k fn) (hr : Room k' X.A) (hg : Gl X x) (ha : PAX X (e :: es) t fa) (hk : k ≤ k' := by first | decide | omega)
    (hdb : (x == ("__debug__" : Str)) = false := by decide) (he : starEach (e :: es) X.env = (false, eval e X.env) :: starEach es X.env := by rfl) (hpl : (backTo pos (starEach es X.env)).any (·.1) = false := by rfl) :
    PX X (.Call (.Name x p) (e :: es) [] pos) (tCall (Spg X.K X.mg fn) [] E0 t) (xL (gCall fn) fa) := by
  obtain ⟨f, fd, ps, F, hm, hkp, hb⟩ := F.ex
  exact xCall F (hr.mono hk) hg hm hkp hb ha hdb he hpl
end
end Tw
/-! Core16: zip, enumerate, reversed; sorted. -/
namespace Tw
open PySem PySem.Spec PyProof.Rows L2

section
variable {K : PySem.W.Frag} {G : Str → Option Value}
/-- pairs of frozen things -/
def pairO : O → O → Option O
  | .fr a, .fr b => some (.fr (.tup [a, b]))
  | _, _ => none
def pairsO : List O → List O → Option (List O)
  | a :: as, b :: bs => (pairO a b).bind fun p => (pairsO as bs).map (p :: ·)
  | _, _ => some []
theorem pairsO_len : ∀ {as bs ps : List O}, pairsO as bs = some ps → ps.length = min as.length bs.length
  | [], bs, ps, h => by simp [pairsO] at h; subst h; simp
  | a :: as, [], ps, h => by simp [pairsO] at h; subst h; simp
  | a :: as, b :: bs, ps, h => by
    simp only [pairsO] at h
    obtain ⟨p, _, h⟩ := Option.bind_eq_some_iff.mp h
    obtain ⟨r, h2, rfl⟩ := Option.map_eq_some_iff.mp h
    have := pairsO_len h2
    simp only [List.length_cons]
    omega
theorem pairsO_get : ∀ {as bs ps : List O} {i : Nat} {p : O}, pairsO as bs = some ps → ps[i]? = some p → ∃ a b, as[i]? = some (.fr a) ∧ bs[i]? = some (.fr b) ∧ p = .fr (.tup [a, b])
  | [], bs, ps, i, p, h, e => by simp [pairsO] at h; subst h; simp at e
  | a :: as, [], ps, i, p, h, e => by simp [pairsO] at h; subst h; simp at e
  | a :: as, b :: bs, ps, i, p, h, e => by
    simp only [pairsO] at h
    obtain ⟨q, h1, h⟩ := Option.bind_eq_some_iff.mp h
    obtain ⟨r, h2, rfl⟩ := Option.map_eq_some_iff.mp h
    cases i with
    | zero =>
      simp at e; subst e
      unfold pairO at h1
      split at h1
      · cases h1; exact ⟨_, _, rfl, rfl, rfl⟩
      · cases h1
    | succ i =>
      obtain ⟨x, y, h3, h4, h5⟩ := pairsO_get (i := i) h2 (by simpa using e)
      exact ⟨x, y, by simpa using h3, by simpa using h4, h5⟩
@[simp] theorem pairsO_fr {α β : Type} (f : α → D) (g : β → D) : ∀ (as : List α) (bs : List β), pairsO (as.map fun x => O.fr (f x)) (bs.map fun x => O.fr (g x)) = some ((as.zip bs).map fun p => .fr (.tup [f p.1, g p.2]))
  | [], bs => by simp [pairsO]
  | a :: as, [] => by simp [pairsO]
  | a :: as, b :: bs => by simp [pairsO, pairO, pairsO_fr f g as bs]
/-- a fresh pair, frozen at once -/
theorem fresh_pair {F2 H2 B : Hp} {T : Addr} {x y : V} {a b : D} (k2 : Same F2 H2) (hT : H2 T = none) (ra : R K G F2 x a) (rb : R K G F2 y b) : ∃ F3, Pst F2 H2 F3 (upd H2 T (.tup [x, y])) ∧ OV K G F3 B (.ref T) (.fr (.tup [a, b])) := by
  have n := new_same (u := .tup [x, y]) hT
  have nF : Same F2 (upd F2 T (.tup [x, y])) := new_same (k2.free hT)
  refine ⟨upd F2 T (.tup [x, y]), ⟨n, nF, fun b u e => ?_, fun b z => ?_⟩, R.tup (.inl (.inl upd_same)) (.cons (R.same nF ra) (.cons (R.same nF rb) .nil))⟩
  · by_cases h : b = T
    · rw [h, upd_same] at e ⊢; exact e
    · rw [upd_ne h] at e ⊢; exact k2 _ _ e
  · by_cases h : b = T
    · rw [h]; exact .inr hT
    · rw [upd_ne h] at z; exact .inl z
def gZip : List O → Option (List O)
  | [a, b] => match a, b with
    | .fr (.list xs), .fr (.list ys) => pairsO (xs.map .fr) (ys.map .fr)
    | _, _ => none
  | _ => none
def rZip (K : PySem.W.Frag) : RI := fun vs H1 R => ∃ a b xs ys, vs = [.ref a, .ref b] ∧ SqL K H1 a xs ∧ SqL K H1 b ys ∧ R (Itz K a b) H1
theorem frs_item {F : Hp} {vs : List V} {ds : List D} (t : Rs K G F vs ds) {i : Nat} {d : D} (h : (ds.map O.fr)[i]? = some (.fr d)) {x : V} (hx : vs[i]? = some x) : R K G F x d := by
  rw [List.getElem?_map] at h
  obtain ⟨d', h1, h2⟩ := Option.map_eq_some_iff.mp h
  cases h2
  obtain ⟨v, h3, h4⟩ := t.get h1
  rw [hx] at h3
  cases h3
  exact h4
theorem irsem_zip : IRSem K G (rZip K) gZip := by
  intro F B H vs os S its Rr hF hB rs hl e q
  unfold gZip at e
  split at e
  · split at e
    · rename_i xs ys
      obtain ⟨v, v2, S1, S2, rfl, r1, r2, _⟩ := rs.two
      cases r1 with
      | fr r1 =>
        cases r2 with
        | fr r2 =>
          obtain ⟨a, us, rfl, hs, t⟩ := r1.list_inv
          obtain ⟨b, ws, rfl, hs2, t2⟩ := r2.list_inv
          refine ⟨a, b, us, ws, rfl, .inl (Rd.same hF hs), .inl (Rd.same hF hs2), q _ _ _ (walk_zip (xs := us) (ys := ws) (by rw [pairsO_len e, List.length_map, List.length_map, t.length, t2.length])) (fun F2 H2 k1 k2 k3 => ⟨.inl (Rd.same (k1.trans k2) hs), .inl (Rd.same (k1.trans k2) hs2)⟩) fun i F2 H2 x H3 o k1 k2 k3 eo y => ?_⟩
          obtain ⟨T, x1, x2, rfl, hT, rfl, hx, hy⟩ := y
          obtain ⟨d1, d2, e1, e2, rfl⟩ := pairsO_get e eo
          exact fresh_pair k2 hT (R.same k1 (frs_item t e1 hx)) (R.same k1 (frs_item t2 e2 hy))
    · cases e
  · cases e
def gEnum : List O → Option (List O)
  | [.fr (.list xs)] => some ((xs.zipIdx).map fun p => .fr (.tup [.int (p.2 : Nat), p.1]))
  | _ => none
def rEnumI (K : PySem.W.Frag) : RI := fun vs H1 R => ∃ a xs, vs = [.ref a] ∧ SqL K H1 a xs ∧ R (Ite K a) H1
theorem irsem_enum : IRSem K G (rEnumI K) gEnum := by
  intro F B H vs os S its Rr hF hB rs hl e q
  unfold gEnum at e
  split at e
  · rename_i xs
    cases e
    obtain ⟨v, rfl, r1⟩ := rs.one
    cases r1 with
    | fr r1 =>
      obtain ⟨a, us, rfl, hs, t⟩ := r1.list_inv
      refine ⟨a, us, rfl, .inl (Rd.same hF hs), q (Ite K a) (fun H => SqL K H a us) _ (by rw [List.length_map, List.length_zipIdx, ← t.length]; exact walk_enum (xs := us)) (fun F2 H2 k1 k2 k3 => .inl (Rd.same (k1.trans k2) hs)) fun i F2 H2 x H3 o k1 k2 k3 eo y => ?_⟩
      obtain ⟨T, x1, x2, rfl, hT, rfl, hx, hy⟩ := y
      rw [List.getElem?_map, List.getElem?_zipIdx] at eo
      obtain ⟨p, e1, e2⟩ := Option.map_eq_some_iff.mp eo
      obtain ⟨d, e3, e4⟩ := Option.map_eq_some_iff.mp e1
      subst e4 e2
      cases hx
      obtain ⟨w, h3, h4⟩ := t.get e3
      have hy : us[i]? = some x2 := hy
      rw [hy] at h3
      cases h3
      simp only [Nat.zero_add]
      exact fresh_pair k2 hT (.int _) (R.same k1 h4)
  · cases e
def gRev : List O → Option (List O)
  | [.fr (.list xs)] => some (xs.reverse.map .fr)
  | _ => none
def rRevI (K : PySem.W.Frag) : RI := fun vs H1 R => ∃ (a : Addr) (xs : List V), vs = [.ref a] ∧ SqL K H1 a xs ∧ R (Itv K a xs.length) H1
theorem irsem_rev : IRSem K G (rRevI K) gRev := by
  intro F B H vs os S its Rr hF hB rs hl e q
  unfold gRev at e
  split at e
  · rename_i xs
    cases e
    obtain ⟨v, rfl, r1⟩ := rs.one
    cases r1 with
    | fr r1 =>
      obtain ⟨a, us, rfl, hs, t⟩ := r1.list_inv
      refine ⟨a, us, rfl, .inl (Rd.same hF hs), q (Itv K a us.length) (fun H => SqL K H a us) _ (by rw [List.length_map, List.length_reverse, ← t.length]; exact walk_rev (xs := us)) (fun F2 H2 k1 k2 k3 => .inl (Rd.same (k1.trans k2) hs)) fun i F2 H2 x H3 o k1 k2 k3 eo y => ?_⟩
      obtain ⟨rfl, hx⟩ := y
      rw [List.getElem?_map] at eo
      obtain ⟨d, e1, e2⟩ := Option.map_eq_some_iff.mp eo
      subst e2
      have hi := (List.getElem?_eq_some_iff.mp e1).1
      rw [List.length_reverse] at hi
      rw [List.getElem?_reverse hi, ← t.length] at e1
      obtain ⟨w, h3, h4⟩ := t.get e1
      rw [hx] at h3
      cases h3
      exact ⟨F2, Pst.refl k2, OV.mono (o := .fr d) k1 h4⟩
  · cases e
section
variable {X : Cx} {tg a b : Expr} {ta tb : TE} {fa fb : En → Option O} {p pos tpos : Pos} {elts : List Expr} {kk : Nat}
theorem jZip (hg : Gl X "zip") (hm : X.mg "zip" = none) (ha : PX X a ta fa) (hb : PX X b tb fb) (hs : starEach [a, b] X.env = (false, eval a X.env) :: starEach [b] X.env := by rfl) (hs2 : starEach [b] X.env = (false, eval b X.env) :: starEach [] X.env := by rfl) (hpl : (backTo pos (starEach [b] X.env)).any (·.1) = false := by rfl) :
    PJX X (.Tuple elts kk tpos) (.Call (.Name "zip" p) [a, b] [] pos) (tCons ta (tCons tb tNil)) (rZip X.K) (aCons fa (aCons fb aNil)) gZip :=
  ⟨pi_zip hg hm (pa_cons ha.run (pa_cons hb.run pa_nil hs2) hs) hs hpl, asem_cons ha.sem (asem_cons hb.sem asem_nil), irsem_zip⟩
theorem jEnum (hg : Gl X "enumerate") (hm : X.mg "enumerate" = none) (ha : PX X a ta fa) (hs : starEach [a] X.env = [(false, eval a X.env)] := by rfl) :
    PJX X (.Tuple elts kk tpos) (.Call (.Name "enumerate" p) [a] [] pos) (tCons ta tNil) (rEnumI X.K) (aCons fa aNil) gEnum :=
  ⟨pi_enum hg hm (pa_cons ha.run pa_nil hs) hs, asem_cons ha.sem asem_nil, irsem_enum⟩
theorem jRev (hg : Gl X "reversed") (hm : X.mg "reversed" = none) (ha : PX X a ta fa) (hs : starEach [a] X.env = [(false, eval a X.env)] := by rfl) :
    PJX X tg (.Call (.Name "reversed" p) [a] [] pos) (tCons ta tNil) (rRevI X.K) (aCons fa aNil) gRev :=
  ⟨pi_reversed hg hm (pa_cons ha.run pa_nil hs) hs, asem_cons ha.sem asem_nil, irsem_rev⟩
end
end
end Tw
/-! Core17: sorted. -/
namespace Tw
open PySem PySem.Spec PyProof.Rows L2

/-! ### the rule -/
abbrev dLe : PyData → PyData → Bool := fun a b => PySem.W.dataLe false (fun d : PyData => d) a b
def rSortX (K : PySem.W.Frag) : List V → Hp → VK → Prop := fun vs H Q => ∃ (a : Addr) (xs : List V) (ds : List PyData), vs = [.ref a] ∧ SqL K H a xs ∧ DpAll K H xs ds ∧ PySem.W.AllAlike ds ∧ PySem.W.Sortable ds ∧ (∀ d ∈ ds, d.depth ≤ 60) ∧
  ∀ p, H p = none → Q (.ref p) (upd H p (.lst (((xs.zip ds).mergeSort fun a b => dLe a.2 b.2).map Prod.fst)))
theorem dpall_length {K : PySem.W.Frag} {H : Hp} : ∀ {xs : List V} {ds : List PyData}, DpAll K H xs ds → xs.length = ds.length
  | _, _, .nil => rfl
  | _, _, .cons _ t => by simp [dpall_length t]
theorem each_zip {R : Value → PyData → Prop} : ∀ {us : List Value} {xs : List V} {ds : List PyData}, Vals xs us → PySem.W.EachIs R us ds → PySem.W.EachIs (fun u (b : V × PyData) => R u b.2) us (xs.zip ds) ∧ PySem.W.EachIs (fun u (b : V × PyData) => RelV b.1 u) us (xs.zip ds)
  | _, _, _, .nil, .nil => ⟨.nil, .nil⟩
  | _, _, _, .cons r t, .cons e es => ⟨.cons e (each_zip t es).1, .cons r (each_zip t es).2⟩
theorem vals_of_each : ∀ {us : List Value} {bs : List (V × PyData)}, PySem.W.EachIs (fun u (b : V × PyData) => RelV b.1 u) us bs → Vals (bs.map Prod.fst) us
  | _, _, .nil => .nil
  | _, _, .cons r t => .cons r (vals_of_each t)
theorem cr_sortedX {X : Cx} (hu : X.A.units + 64 < cLine) : CallR X (.builtin "sorted") (rSortX X.K) := by
  intro pins s σ H vs us Q I r h
  obtain ⟨a, xs, ds, rfl, hs, hd, hal, hk, hdep, q⟩ := h
  obtain ⟨its, rv, hl, hz⟩ := I.list hs
  rw [Vals.ref1 r]
  obtain ⟨as, hr⟩ := Dp.readsAll I ds xs its hd rv
  have er0 : PySem.W.EachIs (fun v b => ∃ as, Reads s.heap v b as) its ds := PySem.W.readsAll_each (fun d => d) (by rw [List.map_id']; exact hr)
  have ee := each_zip rv er0
  have em : (xs.zip ds).map Prod.snd = ds := List.map_snd_zip (by rw [dpall_length hd]; exact Nat.le_refl _)
  have lz : (xs.zip ds).length = its.length := by rw [List.length_zip, ← dpall_length hd, ← rv.length, Nat.min_self]
  refine PySem.W.sorted_data (enc := Prod.snd) hl.isList ee.2 ee.1 (by rw [em]; exact hal) (by rw [em]; exact hk) (by rw [lz, ← rv.length]; exact hz) (fun b hb => ?_) fun out hlen ho => ?_
  · have := hdep b.2 (by rw [← em]; exact List.mem_map_of_mem hb)
    show X.A.units + 2 + b.2.depth < cLine
    omega
  · have vv := vals_of_each ho
    obtain ⟨ep, he'⟩ := PyProof.Rows.sortedAll_at s.heap its out.toArray
    have hlen2 : (((xs.zip ds).mergeSort fun a b => dLe a.2 b.2).map Prod.fst).length ≤ sizeLine := by
      rw [List.length_map, List.length_mergeSort, lz, ← rv.length]
      exact hz
    exact ⟨.ref _, upd H (s.heap.objs.size + 1) (.lst (((xs.zip ds).mergeSort fun a b => dLe a.2 b.2).map Prod.fst)), I.laid (t' := s.toks) (fun _ _ => PyProof.Rows.sortedAll_old) (Nat.le_succ _) ⟨hlen2, out, ep, vv, he'⟩, rfl, q _ (I.hok.fresh (Nat.le_succ _))⟩

/-! ### its reading -/
def leO (a b : O) : Bool := dLe a.rd.py b.rd.py
def D.tup1 : D → Bool
  | .tup (_ :: _) => true
  | _ => false
def D.other : D → Bool
  | .tup _ => false
  | .none => false
  | _ => true
def sortOk (ds : List D) : Bool := (ds.all fun d => ds.all fun e => PySem.W.alike d.py e.py) && (ds.all D.tup1 || ds.all D.other) && D.shs ds 60
def gSorted : List O → Option O
  | [a] => (a.itsL).bind fun os => if os.all O.lent && sortOk (O.rds os) then some (.list (os.mergeSort leO)) else none
  | _ => none
theorem pys_map : ∀ ds : List D, D.pys ds = ds.map D.py
  | [] => by simp [D.pys]
  | d :: ds => by simp [D.pys, pys_map ds]
theorem sortOk_alike {ds : List D} (h : sortOk ds = true) : PySem.W.AllAlike (D.pys ds) ∧ PySem.W.Sortable (D.pys ds) ∧ (∀ d ∈ D.pys ds, d.depth ≤ 60) ∧ D.shs ds 60 = true := by
  unfold sortOk at h
  simp only [Bool.and_eq_true, Bool.or_eq_true, List.all_eq_true] at h
  obtain ⟨⟨h1, h2⟩, h3⟩ := h
  rw [pys_map]
  refine ⟨fun d hd d' hd' => ?_, ?_, fun d hd => ?_, h3⟩
  · obtain ⟨x, hx, rfl⟩ := List.mem_map.mp hd
    obtain ⟨y, hy, rfl⟩ := List.mem_map.mp hd'
    exact h1 x hx y hy
  · rcases h2 with h2 | h2
    · refine .inl fun d hd => ?_
      obtain ⟨x, hx, rfl⟩ := List.mem_map.mp hd
      have := h2 x hx
      unfold D.tup1 at this
      split at this
      · rename_i y ys
        exact ⟨y.py, D.pys ys, by simp only [D.py, D.pys]⟩
      · cases this
    · refine .inr fun d hd => ?_
      obtain ⟨x, hx, rfl⟩ := List.mem_map.mp hd
      have := h2 x hx
      cases x <;> simp [D.other] at this <;> simp [D.py]
  · obtain ⟨x, hx, rfl⟩ := List.mem_map.mp hd
    rw [shs_eq, List.all_eq_true] at h3
    exact (D.lay x 60 (h3 x hx)).2
section
variable {K : PySem.W.Frag} {G : Str → Option Value}
theorem ORs.pairs {F B H : Hp} : ∀ {ps : List (V × O)} {S : Rg}, (∀ p ∈ ps, OV K G F B p.1 p.2) → ORs K G F B H (ps.map Prod.fst) (ps.map Prod.snd) S
  | [], _, _ => .nil
  | p :: ps, S, h => .cons (S1 := fun _ => False) (S2 := fun _ => False) (h p (List.mem_cons_self)).or (ORs.pairs fun q hq => h q (List.mem_cons_of_mem _ hq)) (fun _ z => z.elim) (fun _ z => z.elim) fun _ z => z.elim
theorem ORs.ovs {F B H : Hp} : ∀ {vs : List V} {os : List O} {S : Rg}, ORs K G F B H vs os S → os.all O.lent = true → ∀ p ∈ vs.zip os, OV K G F B p.1 p.2
  | _, _, _, .nil, _, p, hp => by simp at hp
  | _, _, _, .cons a b _ _ _, hl, p, hp => by
    simp only [List.all_cons, Bool.and_eq_true] at hl
    rw [List.zip_cons_cons, List.mem_cons] at hp
    rcases hp with rfl | hp
    · cases a with
      | fr r => exact r
      | bo r => exact r
      | _ => simp [O.lent] at hl
    · exact ORs.ovs b hl.2 p hp
theorem zip_map_right {α β γ : Type} (f : β → γ) : ∀ (xs : List α) (ys : List β), xs.zip (ys.map f) = (xs.zip ys).map fun p => (p.1, f p.2)
  | [], ys => by simp
  | x :: xs, [] => by simp
  | x :: xs, y :: ys => by simp [zip_map_right f xs ys]
theorem rsem_sorted : RSem K G (rSortX K) gSorted := by
  intro F B H vs os S o Q hF hB rs w nb e q
  unfold gSorted at e
  split at e
  · rename_i a
    obtain ⟨va, rfl, r1⟩ := rs.one
    obtain ⟨os, e1, e⟩ := Option.bind_eq_some_iff.mp e
    split at e
    · rename_i hc
      rw [Bool.and_eq_true] at hc
      cases e
      obtain ⟨p, us, rfl, hs, t⟩ := r1.itemsL hF hB e1
      obtain ⟨k1, k2, k3, k4⟩ := sortOk_alike hc.2
      have tt := t.alls hF hB
      have hl := t.length
      have e2 : us.zip (D.pys (O.rds os)) = (us.zip os).map fun p => (p.1, p.2.rd.py) := by
        rw [pys_map, rds_eq, List.map_map]
        exact zip_map_right (fun o : O => o.rd.py) us os
      have e3 : ((us.zip (D.pys (O.rds os))).mergeSort fun a b => dLe a.2 b.2).map Prod.fst = ((us.zip os).mergeSort fun a b => leO a.2 b.2).map Prod.fst := by
        rw [e2, ← List.map_mergeSort (r := fun a b : V × O => leO a.2 b.2) (s := fun a b : V × PyData => dLe a.2 b.2) (f := fun p : V × O => (p.1, p.2.rd.py)) (fun _ _ _ _ => rfl), List.map_map]
        rfl
      have e4 : os.mergeSort leO = ((us.zip os).mergeSort fun a b => leO a.2 b.2).map Prod.snd := by
        rw [List.map_mergeSort (s := leO) (fun _ _ _ _ => rfl), List.map_snd_zip (Nat.le_of_eq hl.symm)]
      refine ⟨p, us, D.pys (O.rds os), rfl, .inl hs, Rs.dp 60 k4 tt, k1, k2, k3, fun l hl => ?_⟩
      rw [e3]
      rw [e4] at q
      have ov := t.ovs hc.1
      refine fin_list (S := fun _ => False) hF hl (ORs.pairs fun p hp => ov p ((List.mergeSort_perm _ _).mem_iff.mp hp)) (fun _ z => z.elim) fun v F' H' S' p1 p2 p3 p4 => q v F' H' S' p1 p2 p3 fun b z => (p4 b z).elim (fun z => z.elim) .inr
    · cases e
  · cases e
end
section
variable {X : Cx} {a : Expr} {ta : TE} {fa : En → Option O} {p pos : Pos}
theorem xSorted {k : Nat} (hr : Room k X.A) (hg : Gl X "sorted") (hm : X.mg "sorted" = none) (ha : PX X a ta fa) (hs : starEach [a] X.env = (false, eval a X.env) :: starEach [] X.env := by rfl) : PX X (.Call (.Name "sorted" p) [a] [] pos) (tCB (rSortX X.K) (tCons ta tNil)) (xL gSorted (aCons fa aNil)) :=
  ⟨pe_callB (cr_sortedX (by have := hr.un; omega)) hg hm (by decide +kernel) (pa_cons ha.run pa_nil hs) (he := hs), esem_cb rsem_sorted (asem_cons ha.sem asem_nil)⟩
end
end Tw
/-! Core18: sorted(set(..)) of ints. -/
namespace Tw
open PySem PySem.Spec PyProof.Rows L2

/-! ### rising, each once -/
def insU (x : Int) : List Int → List Int
  | [] => [x]
  | y :: ys => if x < y then x :: y :: ys else if x = y then y :: ys else y :: insU x ys
def sortU : List Int → List Int
  | [] => []
  | x :: xs => insU x (sortU xs)
theorem mem_insU {x z : Int} : ∀ ys : List Int, z ∈ insU x ys ↔ z = x ∨ z ∈ ys
  | [] => by simp [insU]
  | y :: ys => by
    unfold insU
    split
    · simp
    · split
      · rename_i h; subst h; simp
      · simp only [List.mem_cons, mem_insU ys]
        constructor
        · rintro (h | h | h)
          · exact .inr (.inl h)
          · exact .inl h
          · exact .inr (.inr h)
        · rintro (h | h | h)
          · exact .inr (.inl h)
          · exact .inl h
          · exact .inr (.inr h)
theorem insU_up {x : Int} : ∀ ys : List Int, ys.Pairwise (· < ·) → (insU x ys).Pairwise (· < ·)
  | [], _ => by simp [insU]
  | y :: ys, h => by
    obtain ⟨h1, h2⟩ := List.pairwise_cons.mp h
    unfold insU
    split
    · rename_i hx
      refine List.pairwise_cons.mpr ⟨fun z hz => ?_, h⟩
      rcases List.mem_cons.mp hz with rfl | hz
      · exact hx
      · exact Int.lt_trans hx (h1 z hz)
    · split
      · exact h
      · refine List.pairwise_cons.mpr ⟨fun z hz => ?_, insU_up ys h2⟩
        rcases (mem_insU ys).mp hz with rfl | hz
        · omega
        · exact h1 z hz
theorem mem_sortU {z : Int} : ∀ xs : List Int, z ∈ sortU xs ↔ z ∈ xs
  | [] => by simp [sortU]
  | x :: xs => by unfold sortU; rw [mem_insU, mem_sortU xs, List.mem_cons]
theorem sortU_up : ∀ xs : List Int, (sortU xs).Pairwise (· < ·)
  | [] => .nil
  | x :: xs => insU_up _ (sortU_up xs)
theorem up_uniq : ∀ {xs ys : List Int}, xs.Pairwise (· < ·) → ys.Pairwise (· < ·) → (∀ z, z ∈ xs ↔ z ∈ ys) → xs = ys
  | [], [], _, _, _ => rfl
  | [], y :: ys, _, _, h => by have := (h y).mpr List.mem_cons_self; cases this
  | x :: xs, [], _, _, h => by have := (h x).mp List.mem_cons_self; cases this
  | x :: xs, y :: ys, hx, hy, h => by
    obtain ⟨a1, a2⟩ := List.pairwise_cons.mp hx
    obtain ⟨b1, b2⟩ := List.pairwise_cons.mp hy
    have e : x = y := by
      have m1 := (h x).mp List.mem_cons_self
      have m2 := (h y).mpr List.mem_cons_self
      rcases List.mem_cons.mp m1 with r | r
      · exact r
      · rcases List.mem_cons.mp m2 with t | t
        · exact t.symm
        · have := b1 x r; have := a1 y t; omega
    subst e
    rw [up_uniq a2 b2 fun z => ?_]
    constructor
    · intro hz
      rcases List.mem_cons.mp ((h z).mp (List.mem_cons_of_mem _ hz)) with r | r
      · subst r; have := a1 z hz; omega
      · exact r
    · intro hz
      rcases List.mem_cons.mp ((h z).mpr (List.mem_cons_of_mem _ hz)) with r | r
      · subst r; have := b1 z hz; omega
      · exact r
theorem sortU_of {xs ys : List Int} (h : ys.Pairwise (· < ·)) (m : ∀ z, z ∈ ys ↔ z ∈ xs) : ys = sortU xs := up_uniq h (sortU_up xs) fun z => by rw [m, mem_sortU]

section
variable {P : Program} {w : World} {A : Around} {E : Value → Shared → Prop} {s : Shared}
set_option maxHeartbeats 3200000 in
theorem call_set_lstI {l : Addr} {items : Array Value} (ns : List Int) {Q : Value → Shared → Prop} (hh : A.handled = none) (hl : s.heap.IsList l items) (hit : IntsAre items.toList ns) (hb : ns.length + 1 < scanBound)
    (h : ∀ (h' : Heap) (tk c : Nat), SetR w h' s.heap.objs.size (fun j => decide (j ∈ ns)) c → c ≤ ns.length → (∀ b o, s.heap.get? b = some o → h'.get? b = some o) → Q (.ref s.heap.objs.size) { s with heap := h', toks := tk }) :
    wpAny (model P w) A (call (.type "set") [.ref l]) Q E s := by
  have hisz : items.size = ns.length := by
    have q := IntsAre.length hit
    rw [Array.length_toList] at q
    exact q
  obtain ⟨c, tl, hmro⟩ := PySem.F.called_set.mro
  have hmade := PySem.F.called_set.made
  have hsub := PySem.F.called_set.sub
  refine wpAny_call (codeAny_of_tree ?_)
  show wpAny _ _ (callAny (.type "set") _) _ _ _
  refine wpAny_pure ⟨Code.quiet_builtin _ (by decide +kernel), codeAny_builtin PySem.F.entry_type_call ?_⟩
  rw [Around.under_plain (weight_type_call_type "set" [.ref l] []) rfl]
  have h1 := PySem.F.called_set.notType
  have h2 := PySem.F.called_set.canCreate
  have hct := PySem.F.typeCall_set_1 (.ref l)
  repeat (any_goals (first | assumption | wp_step))
  refine codeAny_mono (code_set_led1 (.ref l) (E := E) (Q₁ := fun obj s₁ => obj = .ref s.heap.objs.size ∧ s₁ = { s with heap := s.heap.push { cls := .type "set", dict := none, data := .set #[] 0 (.fresh 0 0 (!w.params.followText "set-order")) } }) ⟨rfl, rfl⟩) fun r s₁ hr => ?_
  cases r with
  | error e => exact hr
  | ok fl =>
    cases fl with
    | ret obj =>
      obtain ⟨rfl, rfl⟩ := hr
      have hS : (s.heap.push { cls := .type "set", dict := none, data := .set #[] 0 (.fresh 0 0 (!w.params.followText "set-order")) }).get? s.heap.objs.size = some { cls := .type "set", dict := none, data := .set #[] 0 (.fresh 0 0 (!w.params.followText "set-order")) } := Heap.get?_push_size _ rfl
      have hT : Shared.TypeIs { s with heap := s.heap.push { cls := .type "set", dict := none, data := .set #[] 0 (.fresh 0 0 (!w.params.followText "set-order")) } } (.ref s.heap.objs.size) "set" := ⟨_, hS, rfl⟩
      have hli := PySem.F.called_set.init.lookup
      have hbi := PySem.F.called_set.init.bind (.ref s.heap.objs.size)
      repeat (any_goals (first | assumption | wp_step))
      refine codeAny_mono (codeAny_call_builtin (R := wants (fun r s₂ => r = .none ∧ ∃ h' tk c, s₂ = { s with heap := h', toks := tk } ∧ SetR w h' s.heap.objs.size (fun j => decide (j ∈ ns)) c ∧ c ≤ ns.length ∧
          (∀ b o, s.heap.get? b = some o → h'.get? b = some o)) E) PySem.F.called_set.init.plain PySem.F.entry_set_init (check_set_init_1 hT ?_)) fun r₂ s₂ hr₂ => ?_
      · obtain ⟨ol, hol, hcl, nl, hdl⟩ := hl
        obtain ⟨ocls, odict, odata, oslots⟩ := ol
        simp only at hcl hdl
        subst hcl; subst hdl
        have hol' : (s.heap.push { cls := .type "set", dict := none, data := .set #[] 0 (.fresh 0 0 (!w.params.followText "set-order")) }).get? l = some { cls := .type "list", dict := odict, data := .seq items nl, slots := oslots } := Heap.get?_push_of_some _ hol
        have hsls := PySem.F.sub_list_set
        have hslf := PySem.F.sub_list_frozenset
        have hne : (Value.type "list" == Value.type "dict") = false := by decide
        have hl1 : (s.heap.push { cls := .type "set", dict := none, data := .set #[] 0 (.fresh 0 0 (!w.params.followText "set-order")) }).IsList l items := ⟨_, hol', rfl, nl, rfl⟩
        unfold Builtin.«set.__init__» noKeywords Builtin.Frozenset.updateFrom
        generalize hPI : pyIter = PI
        wp_walk
        subst hPI
        refine wpAny_pyIter_list hl1 ?_
        refine wpAny_bind (wpAny_runValue ?_)
        have hlS : l < s.heap.objs.size := Heap.lt_size hol
        have hh3 : A.in1.in1.in1.handled = none := by simp [hh]
        have hneI : l ≠ (s.heap.push { cls := .type "set", dict := none, data := .set #[] 0 (.fresh 0 0 (!w.params.followText "set-order")) }).objs.size := by
          rw [Heap.size_push]; exact Nat.ne_of_lt (Nat.lt_succ_of_lt hlS)
        have hSf : s.heap.objs.size ∉ [(s.heap.push { cls := .type "set", dict := none, data := .set #[] 0 (.fresh 0 0 (!w.params.followText "set-order")) }).objs.size, l] := by
          rw [Heap.size_push]; simp only [List.mem_cons, List.mem_singleton, List.not_mem_nil, or_false, not_or]
          exact ⟨Nat.ne_of_lt (Nat.lt_succ_self _), Nat.ne_of_gt hlS⟩
        have hval : ∀ (i : Nat) (v : Value), items[i]? = some v → ∃ k t, ns[i]? = some k ∧ v = .int k t := fun i v hv => by
          have hi : i < ns.length := by rw [← hisz]; exact (Array.getElem?_eq_some_iff.mp hv).1
          obtain ⟨t, e⟩ := PyProof.Rows.IntsAre.int_at hit i v (by rw [Array.getElem?_toList]; exact hv)
          refine ⟨ns[i], t, List.getElem?_eq_getElem hi, ?_⟩
          rw [e, List.getD_eq_getElem?_getD, List.getElem?_eq_getElem hi] <;> rfl
        refine set_update_ints ((Walks.list hh3 _ l hneI items).toS) s.heap.objs.size
          hSf ns hisz hb hval (items.size - 0) 0 _ (by omega) (Nat.zero_le _)
          ⟨⟨_, Heap.get?_push_size _ rfl, rfl, rfl⟩, (hl1.push _)⟩ ?hS0 ?hR
        case hS0 =>
          have hget : ((s.heap.push { cls := .type "set", dict := none, data := .set #[] 0 (.fresh 0 0 (!w.params.followText "set-order")) }).push { cls := .type "list_iterator", data := .fields #[.ref l, .int 0 0] }).get? s.heap.objs.size
              = some { cls := .type "set", dict := none, data := .set #[] 0 (.fresh 0 0 (!w.params.followText "set-order")) } := Heap.get?_push_of_some _ hS
          exact ⟨0, Nat.le_refl 0, setR_new_at hget⟩
        case hR =>
          intro s' c' hm hc' hS'
          obtain ⟨h', g2, d', tk', os'⟩ := s'
          have eg : g2 = s.gens := hm.gens
          have ed : d' = s.drawn := hm.drawn
          have eo : os' = s.os := hm.os
          subst eg; subst ed; subst eo
          show wpAny _ _ _ _ _ _
          refine wpAny_pure ?_
          show wpAny _ _ (ret Value.none) _ _ _
          rw [hisz] at hc'
          refine wpAny_pure ⟨rfl, h', tk', c', rfl, hS', hc', fun b o e => ?_⟩
          have hb0 : b < s.heap.objs.size := Heap.lt_size e
          have hb1 : b ≠ s.heap.objs.size := Nat.ne_of_lt hb0
          have hb2 : b ≠ (s.heap.push { cls := .type "set", dict := none, data := .set #[] 0 (.fresh 0 0 (!w.params.followText "set-order")) }).objs.size := by
            rw [Heap.size_push]; exact Nat.ne_of_lt (Nat.lt_succ_of_lt hb0)
          exact hm.heap b o (by simp only [List.mem_cons, List.mem_singleton, List.not_mem_nil, or_false, not_or]; exact ⟨hb1, hb2⟩) (Heap.get?_push_of_some _ (Heap.get?_push_of_some _ e))
      · cases r₂ with
        | error e => exact hr₂
        | ok fl₂ =>
          cases fl₂ with
          | ret r =>
            obtain ⟨rfl, h', tk, c', rfl, hS', hc', hk'⟩ := hr₂
            repeat (any_goals (first | assumption | wp_step))
            exact h _ _ _ hS' hc' hk'
          | _ => exact hr₂.elim
    | _ => exact hr.elim
theorem nodup_up : ∀ l : List Int, l.Pairwise (· ≤ ·) → l.Nodup → l.Pairwise (· < ·) := lt_of_le_nodup
theorem sorted_setN {a : Addr} {S : Int → Bool} {n : Nat} {Q : Value → Shared → Prop} (R : SetR w s.heap a S n) (hh : A.handled = none)
    (hQ : ∀ s' p (out : Array Value) (c : Nat) (ns : List Int), (∀ b o, s.heap.get? b = some o → s'.heap.get? b = some o) → s'.gens = s.gens → s'.os = s.os → s.heap.objs.size ≤ p →
      s'.heap.get? p = some (seqObj "list" out c) → IntsAre out.toList ns → ns.Pairwise (· < ·) → (∀ k, k ∈ ns ↔ S k = true) → ns.length = n → Q (.ref p) s') :
    wpAny (model P w) A (call (.builtin "sorted") [.ref a]) Q E s := by
  obtain ⟨o, es, ep, t, ho, hex, hd, g, nd, hm, hb, hf, hn, hr, hl⟩ := R
  refine Calls.call_function_entry kind_sorted plain_sorted entry_sorted (args_sorted1 _) ?_
  unfold Builtin.«sorted»
  refine wpAny_bind (m := checkCount "sorted" 1 1 _) (wpAny_pure ?_)
  refine wpAny_bind (collect_set (A := A.in1) hh ⟨o, ho, hex.1, hd⟩ hf hb hr hl fun s1 vs k1 hz g1 o1 pm => ?_)
  have hvl : vs.length = n := by rw [pm.length_eq, List.length_map, Array.length_toList]; exact hn
  have hvz : vs.length ≤ sizeLine := by
    have h1 : es.size < scanBound := hb
    have h2 : scanBound = 4096 := rfl
    rw [hvl, ← hn, sizeLine_eq]
    omega
  have hI : IntsAre vs (vs.map Builtin.Re.reRawOf) := ints_of vs fun v hv => by
    obtain ⟨e, he, q⟩ := List.mem_map.mp (pm.mem_iff.mp hv)
    obtain ⟨k, tk, h1, _⟩ := g e he
    exact ⟨k, tk, by rw [← q]; exact h1⟩
  have pk : (vs.map Builtin.Re.reRawOf).Perm (es.toList.map keyOf) := by
    have q := pm.map Builtin.Re.reRawOf
    rw [List.map_map] at q
    exact q
  refine wpAny_bind (wpAny_newList ?_ hvz)
  have hoL : (s1.heap.push (seqObj "list" vs.toArray 0)).get? s1.heap.objs.size = some (seqObj "list" vs.toArray 0) := Heap.get?_push_size _ rfl
  refine wpAny_bind (wpAny_holding (wpAny_call_entry slot_list_sort ⟨_, hoL, rfl⟩ entry_list_sort (SrtO.list_sort_ord SrtO.swo_int hoL hvz (fun h2 => SrtO.ints_sortable hI h2) fun out a1 a2 => ⟨_, rfl, ?_⟩) (args_list_sort _)))
  obtain ⟨b1, b2, b3⟩ := SrtO.ints_out hI a1 a2
  obtain ⟨c, hc⟩ := sortedHeap_at (vs := vs) (out := out.toArray) hoL
  have pn : (out.map SrtO.iv).Perm (es.toList.map keyOf) := b2.trans pk
  refine wpAny_pure ⟨_, rfl, hQ _ s1.heap.objs.size out.toArray c (out.map SrtO.iv) (fun b u e => ?_) g1 o1 hz hc (by simpa using b1) (nodup_up _ b3 (pn.nodup_iff.mpr nd)) (fun k => by rw [pn.mem_iff, ← hm k]) ?_⟩
  · have q := k1 b u e
    have hlt := Heap.lt_size q
    show (sortedHeap (s1.heap.push (seqObj "list" vs.toArray 0)) s1.heap.objs.size vs out.toArray).get? b = some u
    rw [sortedHeap_old (Nat.ne_of_lt hlt) (by rw [size_push']; exact Nat.lt_succ_of_lt hlt)]
    exact Heap.get?_push_of_some _ q
  · rw [pn.length_eq, List.length_map, Array.length_toList]; exact hn
end
/-- sorted(set(e)), ints -/
def tSortSet (K : PySem.W.Frag) (ta : TE) : TE := fun σ H Q => ta σ H fun x H1 => ∃ (l : Addr) (ns : List Int), x = .ref l ∧ SqL K H1 l (ns.map V.int) ∧ ns.length ≤ 4000 ∧ ∀ p, H1 p = none → Q (.ref p) (upd H1 p (.lst ((sortU ns).map V.int)))
theorem pe_sortSet {X : Cx} {a : Expr} {ta : TE} {p p2 q pos : Pos} (hg : Gl X "sorted") (hm : X.mg "sorted" = none) (hg2 : Gl X "set") (hm2 : X.mg "set" = none) (ha : PE X a ta) (hc : X.calm = true)
    (na : starEach [a] X.env = (false, eval a X.env) :: starEach [] X.env) : PE X (.Call (.Name "sorted" p) [.Call (.Name "set" p2) [a] [] q] [] pos) (tSortSet X.K ta) := by
  refine ⟨fun pins s σ H Q I h => ?_⟩
  refine Call_ (ld_blt (u := .builtin "sorted") I hg hm (by decide +kernel) ?_)
  refine PyProof.Rows.callWith_builtin1 (PyProof.Rows.args_cons ?_ rfl) rfl rfl
  refine Call_ (ld_blt I hg2 hm2 boot_set ?_)
  refine PyProof.Rows.callWith_type1 (PyProof.Rows.args_cons (thn (ha.run pins s σ H _ I h) fun v s1 ⟨x, H1, I1, r1, q1⟩ => PyProof.Rows.args_nil ?_) na) na rfl
  obtain ⟨l, ns, rfl, hq, hl, q1⟩ := q1
  cases r1
  obtain ⟨its, r, pl, hz⟩ := I1.list hq
  have hd := I1.ok.hd hc
  refine call_set_lstI ns hd pl.isList (by simpa using r.ints) (by unfold scanBound; omega) fun h' tk c R1 hcn k => ?_
  refine PyProof.Rows.args_nil ?_
  refine sorted_setN (s := { s1 with heap := h', toks := tk }) R1 hd fun s' p out c ns' k2 g o hp hg' hi hs hmm hll => ?_
  have e : ns' = sortU ns := sortU_of hs fun z => by rw [hmm z, decide_eq_true_eq]
  subst e
  have kall : ∀ b u, s1.heap.get? b = some u → s'.heap.get? b = some u := fun b u e => k2 b u (k b u e)
  have hlt : s1.heap.objs.size ≤ p := Nat.le_trans (Nat.le_of_lt (SetR.lt R1)) hp
  have hn : H1 p = none := I1.hok.fresh hlt
  have hlen : ((sortU ns).map V.int).length ≤ sizeLine := by rw [List.length_map, hll, sizeLine_eq]; omega
  have J : Inv X pins σ (upd H1 p (.lst ((sortU ns).map V.int))) { s1 with heap := s'.heap, gens := s'.gens, drawn := s'.drawn, toks := s'.toks } :=
    I1.call (ch := []) (Un.laid kall hlt hn) (I1.hok.laid kall hlt ⟨hlen, out.toList, c, vals_of_ints hi, hg'⟩) (by rw [g]; exact I1.bare) (fun _ z => nomatch z)
  have e : s' = { s1 with heap := s'.heap, gens := s'.gens, drawn := s'.drawn, toks := s'.toks } := by
    obtain ⟨a1, a2, a3, a4, a5⟩ := s'
    have o' : a5 = s1.os := o
    subst o'
    rfl
  rw [e]
  exact ⟨.ref p, _, J, rfl, q1 p hn⟩
def gSortSet : O → Option O := fun a => match a.rd with
  | .list ds => (D.ints ds).bind fun ns => if ns.length ≤ 4000 then some (.list ((sortU ns).map fun i => .fr (.int i))) else none
  | _ => none
def xSortS (f : En → Option O) : En → Option O := fun ρ => (f ρ).bind gSortSet
theorem xSortSet {X : Cx} {a : Expr} {ta : TE} {fa : En → Option O} {p p2 q pos : Pos} (hc : X.calm = true) (hg : Gl X "sorted") (hm : X.mg "sorted" = none) (hg2 : Gl X "set") (hm2 : X.mg "set" = none) (ha : PX X a ta fa)
    (na : starEach [a] X.env = (false, eval a X.env) :: starEach [] X.env := by rfl) : PX X (.Call (.Name "sorted" p) [.Call (.Name "set" p2) [a] [] q] [] pos) (tSortSet X.K ta) (xSortS fa) := by
  refine ⟨pe_sortSet hg hm hg2 hm2 ha.run hc na, ?_⟩
  intro F B σ ρ H o Q hσ hF hB e q
  unfold xSortS at e
  obtain ⟨oa, ea, e⟩ := Option.bind_eq_some_iff.mp e
  unfold gSortSet at e
  split at e
  · rename_i ds hd
    obtain ⟨ns, hn, e⟩ := Option.bind_eq_some_iff.mp e
    split at e
    · rename_i hl
      cases e
      refine ha.sem F B σ ρ H oa _ hσ hF hB ea fun v F1 H1 S p r w n => ?_
      have q1 := r.all p.fs (p.b hB)
      rw [hd, ints_eq hn] at q1
      obtain ⟨l, us, rfl, hs, t⟩ := q1.list_inv
      rw [t.ints] at hs
      refine ⟨l, ns, rfl, .inl hs, hl, fun l' hl' => ?_⟩
      have t2 : ORs X.K X.mg F1 B H1 ((sortU ns).map V.int) ((sortU ns).map fun i => O.fr (.int i)) (fun _ => False) := by
        have := ORs.of_fr (H := H1) (F := F1) (B := B) (S := fun _ => False) (Rs.of_ints (K := X.K) (G := X.mg) (H := F1) (sortU ns))
        rw [List.map_map] at this
        exact this
      refine fin_list (S := fun _ => False) p.fs hl' t2 (fun _ z => z.elim) fun v F2 H2 S2 p2 r2 w2 n2 => q v F2 H2 S2 (p.trans p2) r2 w2 fun b z => (n2 b z).elim (fun z => z.elim) p.same.free
    · cases e
  · cases e
end Tw
/-! Core19: list(range(..)), some names. -/
namespace Tw
open PySem PySem.Spec PyProof.Rows L2

abbrev gSum : List O → Option O := gInts fun ns => some (.int ns.sum)
abbrev gMaxL : List O → Option O := gInts fun ns => if ns = [] then none else some (.int (maxI ns))
abbrev gMinL : List O → Option O := gInts fun ns => if ns = [] then none else some (.int (minI ns))
abbrev gAll : List O → Option O := gBools fun ns => .bool (ns.all id)
abbrev gAny : List O → Option O := gBools fun ns => .bool (ns.any id)
theorem xIdxR {X : Cx} {a b : Expr} {ta tb : TE} {fa fb : En → Option O} {pos p : Pos} {k : Nat} (hr : Room k X.A) (ha : PX X a ta fa) (hb : PX X b tb fb) (hbase : attributeBase a "index" X.env (eval a X.env) = eval a X.env := by rfl)
    (hfew : ((backTo pos (starEach [b] X.env)).all (fun x => !x.1) && (backToKw pos (keywordEach [] X.env)).all (fun x => x.1.isSome)
      && decide ([b].length + ([] : List Keyword).length + (if ([] : List Keyword).isEmpty then 0 else 1) < 30)) = true := by rfl)
    (hline : (p.endLine == pos.line) = true := by rfl) (hs : starEach [b] X.env = (false, eval b X.env) :: starEach [] X.env := by rfl) :
    PX X (.Call (.Attribute a "index" p) [b] [] pos) (tBM X.K "list" (rIndexD X.K) ta (tCons tb tNil)) (xIndex fa fb) := xIdx (by have := hr.un; omega) ha hb hbase hfew hline hs
/-! readings, named -/
abbrev qSub : R2 := rI0 fun i j => .int (i - j)
abbrev qMul : R2 := rI (fun i j => bitsOk i j = true) fun i j => .int (i * j)
abbrev qDiv : R2 := rI (fun i j => divOk i j = true) fun i j => .int (i / j)
abbrev qMod : R2 := rI (fun i j => modOk i j = true) fun i j => .int (i % j)
abbrev qPow : R2 := rI (fun i j => powOk i j = true) fun i j => .int (i ^ j.toNat)
abbrev qLt : R2 := rI0 fun i j => .bl (decide (i < j))
abbrev qLe : R2 := rI0 fun i j => .bl (decide (i ≤ j))
abbrev qGt : R2 := rI0 fun i j => .bl (decide (j < i))
abbrev qGe : R2 := rI0 fun i j => .bl (decide (j ≤ i))
abbrev qNeg : V → Hp → VK → Prop := rU fun i => .int (-i)
abbrev qInt : List V → Hp → VK → Prop := fun xs H Q => (∃ i, xs = [.int i] ∧ Q (.int i) H) ∨ ∃ k, xs = [.bl k] ∧ Q (.int (if k then 1 else 0)) H
abbrev qList (K : PySem.W.Frag) : List V → Hp → VK → Prop := fun xs H Q => ∃ p ys, xs = [.ref p] ∧ (SqL K H p ys ∨ SqT K H p ys) ∧ ∀ l, H l = none → Q (.ref l) (upd H l (.lst ys))
abbrev qMax2 : List V → Hp → VK → Prop := fun xs H Q => ∃ i j, xs = [.int i, .int j] ∧ Q (.int (if j > i then j else i)) H
abbrev qMin2 : List V → Hp → VK → Prop := fun xs H Q => ∃ i j, xs = [.int i, .int j] ∧ Q (.int (if j < i then j else i)) H
/-! ### list(range(..)) -/
def gLRng : List O → Option O
  | [a] => match a.rd with
    | .int j => if OKR j && decide (j ≤ 16777216) then some (.list ((rng 0 j).map fun i => .fr (.int i))) else none
    | _ => none
  | [a, b] => match a.rd, b.rd with
    | .int i, .int j => if OKR i && OKR j && decide (j - i ≤ 16777216) then some (.list ((rng i j).map fun i => .fr (.int i))) else none
    | _, _ => none
  | _ => none
def xLRng (f : En → Option (List O)) : En → Option O := fun ρ => (f ρ).bind gLRng
section
variable {K : PySem.W.Frag} {G : Str → Option Value} {F B H : Hp}
theorem rgV_eq (i j : Int) : rgV i j = (rng i j).map V.int := by unfold rgV rng; rw [List.map_map]; rfl
theorem fin_rng {i j : Int} {Q : VK} {q : Addr} (hF : Same F H) (hq : H q = none) (k : ∀ v F' H' S, Pst F H F' H' → OR K G F' B H' v (.list ((rng i j).map fun i => .fr (.int i))) S → Own F' H' S → (∀ b, S b → H b = none) → Q v H') : Q (.ref q) (upd H q (.lst (rgV i j))) := by
  have t2 : ORs K G F B H ((rng i j).map V.int) ((rng i j).map fun i => O.fr (.int i)) (fun _ => False) := by
    have := ORs.of_fr (H := H) (F := F) (B := B) (S := fun _ => False) (Rs.of_ints (K := K) (G := G) (H := F) (rng i j))
    rw [List.map_map] at this
    exact this
  rw [rgV_eq]
  exact fin_list (S := fun _ => False) hF hq t2 (fun _ z => z.elim) fun v F2 H2 S2 p2 r2 w2 n2 => k v F2 H2 S2 p2 r2 w2 fun b z => (n2 b z).elim (fun z => z.elim) id
end
section
variable {X : Cx} {a b : Expr} {ta tb : TE} {fa fb : En → Option O} {p p2 pos q : Pos}
theorem xListRg2 (hc : X.calm = true) (hg : Gl X "list") (hm : X.mg "list" = none) (hg2 : Gl X "range") (hm2 : X.mg "range" = none) (ha : PX X a ta fa) (hb : PX X b tb fb)
    (na : starEach [a, b] X.env = (false, eval a X.env) :: starEach [b] X.env := by rfl) (nb : starEach [b] X.env = (false, eval b X.env) :: starEach [] X.env := by rfl) (hp : (backTo q (starEach [b] X.env)).any (·.1) = false := by rfl) (nn : starEach [Expr.Call (.Name "range" p2) [a, b] [] q] X.env = (false, eval (Expr.Call (.Name "range" p2) [a, b] [] q) X.env) :: starEach [] X.env := by rfl) :
    PX X (.Call (.Name "list" p) [.Call (.Name "range" p2) [a, b] [] q] [] pos) (tLstRg (tRg2 ta tb)) (xLRng (aCons fa (aCons fb aNil))) := by
  refine ⟨pe_listRg hc hg hm (prg_2 hg2 hm2 ha.run hb.run na nb hp) nn, ?_⟩
  intro F B σ ρ H o Q hσ hF hB e k
  unfold xLRng at e
  obtain ⟨os, ea0, e⟩ := Option.bind_eq_some_iff.mp e
  unfold aCons at ea0
  obtain ⟨oa, ea, ea2⟩ := Option.bind_eq_some_iff.mp ea0
  obtain ⟨os', eb0, ea2⟩ := Option.bind_eq_some_iff.mp ea2
  obtain ⟨ob, eb, eb2⟩ := Option.bind_eq_some_iff.mp eb0
  obtain ⟨on, en, eb2⟩ := Option.bind_eq_some_iff.mp eb2
  have en : on = [] := (Option.some.inj en).symm
  subst en
  cases eb2
  cases ea2
  unfold gLRng at e
  simp only at e
  split at e
  · rename_i i j hi hj
    split at e
    · rename_i ho
      simp only [Bool.and_eq_true, decide_eq_true_eq] at ho
      cases e
      refine sem2 ha.sem hb.sem hσ hF hB ea eb fun va vb F1 H1 S p1 rs w n => ?_
      obtain ⟨x, y, S1, S2, exy, r1, r2, _⟩ := rs.two
      cases exy
      have q1 := r1.all p1.fs (p1.b hB)
      have q2 := r2.all p1.fs (p1.b hB)
      rw [hi] at q1
      rw [hj] at q2
      cases q1.int_inv
      cases q2.int_inv
      have k1 := OKR_ok ho.1.1
      have k2 := OKR_ok ho.1.2
      have k3 := ho.2
      refine ⟨i, j, rfl, rfl, ⟨k1.1, k1.2, k2.1, k2.2, by omega⟩, fun q hq => fin_rng p1.fs hq fun v F' H' S p2 r w n => k v F' H' S (p1.trans p2) r w fun b z => p1.same.free (n b z)⟩
    · cases e
  · cases e
theorem xListRg1 (hc : X.calm = true) (hg : Gl X "list") (hm : X.mg "list" = none) (hg2 : Gl X "range") (hm2 : X.mg "range" = none) (ha : PX X a ta fa)
    (na : starEach [a] X.env = (false, eval a X.env) :: starEach [] X.env := by rfl) (nn : starEach [Expr.Call (.Name "range" p2) [a] [] q] X.env = (false, eval (Expr.Call (.Name "range" p2) [a] [] q) X.env) :: starEach [] X.env := by rfl) :
    PX X (.Call (.Name "list" p) [.Call (.Name "range" p2) [a] [] q] [] pos) (tLstRg (tRg1 ta)) (xLRng (aCons fa aNil)) := by
  refine ⟨pe_listRg hc hg hm (prg_1 hg2 hm2 ha.run na) nn, ?_⟩
  intro F B σ ρ H o Q hσ hF hB e k
  unfold xLRng at e
  obtain ⟨os, ea0, e⟩ := Option.bind_eq_some_iff.mp e
  unfold aCons at ea0
  obtain ⟨oa, ea, ea2⟩ := Option.bind_eq_some_iff.mp ea0
  obtain ⟨on, en, ea2⟩ := Option.bind_eq_some_iff.mp ea2
  have en : on = [] := (Option.some.inj en).symm
  subst en
  cases ea2
  unfold gLRng at e
  simp only at e
  split at e
  · rename_i j hj
    split at e
    · rename_i ho
      simp only [Bool.and_eq_true, decide_eq_true_eq] at ho
      cases e
      refine ha.sem F B σ ρ H oa _ hσ hF hB ea fun v F1 H1 S p1 r w n => ?_
      have q1 := r.all p1.fs (p1.b hB)
      rw [hj] at q1
      cases q1.int_inv
      have k1 := OKR_ok ho.1
      have k3 := ho.2
      refine ⟨j, rfl, ⟨by decide, by decide, k1.1, k1.2, by omega⟩, fun q hq => fin_rng p1.fs hq fun v F' H' S p2 r w n => k v F' H' S (p1.trans p2) r w fun b z => p1.same.free (n b z)⟩
    · cases e
  · cases e
end
end Tw
/-! Core20: a law's end. -/
namespace Tw
open PySem PySem.Spec PyProof.Rows L2

theorem walk_ofEB {l : PySem.W.OpenLaw} {n k : Nat} {q : Program} {loose : List Str} {XP : (Str → Option Value) → Heap → Prop} {YP : World → Heap → Prop} {d : DefRec} {x : Str}
    (hn : l.most = some n) (hn2 : n ≤ sizeLine) (hdf : d.params.defaults = []) (hr : Room k callerA)
    (F : ∀ (w : World) (mg : Str → Option Value) (fa : Addr) (h : Heap), YP w h → h.Ns mainGlobals mg → mg d.name = some (.ref fa) →
      ∃ (K : PySem.W.Frag) (fd : FuncData) (sp : Sp), K.In h ∧ (∀ (s : Shared) (u : Value), BindsTo s fd ⟨[u], []⟩ [(x, u)]) ∧
        (∀ (H : Hp) (a : Addr) (ns : List Int), ns.length ≤ n → (∀ z ∈ ns, Builtin.Int.intBits z ≤ 1048576) → Only H → SqL K H a (ns.map V.int) → sp [.ref a] H (fun v _ => v = .bl true) fun _ _ _ => False) ∧
        ∀ base : Heap, K.In base → base.Ns mainGlobals mg → FnOk l.prog w K mg base CX0 k fa fd [x] sp) :
    PySem.W.WalkO q loose XP YP l.row.toRowW d [] (fun f vs => PySem.call f vs) := by
  refine Att.attach_callB hn hdf fun w s₀ s₁ mg mb fa o pm cd doc a vs ns G Y ho hd hcd hmg hobj hints hlen hbits hg => ?_
  obtain ⟨K, fd, sp, KX, hb, hsp, hF⟩ := F w mg fa _ Y G.T.g hmg
  exact law_call KX G.T.g G.T.b G.T.builtins G.T.nolimit hg hobj hints (Nat.le_trans hlen hn2) hr hF hb (fun H hO hS => hsp H a ns hlen hbits hO hS) fun H e s' z => z
/-- a law's def, from what it means -/
theorem law_sp {K : PySem.W.Frag} {mg : Str → Option Value} {fn : Fun1} (hl : ∀ ns : List Int, ns.length ≤ 63 → (∀ z ∈ ns, Builtin.Int.intBits z ≤ 1048576) → ∃ os, fn [.fr (.kl (ns.map D.int))] = some (.fr (.bool true), os)) (H : Hp) (a : Addr) (ns : List Int) (h1 : ns.length ≤ 63) (h2 : ∀ z ∈ ns, Builtin.Int.intBits z ≤ 1048576) (_ : Only H) (hS : SqL K H a (ns.map V.int)) :
    Spg K mg fn [.ref a] H (fun v _ => v = .bl true) fun _ _ _ => False := by
  obtain ⟨os, e⟩ := hl ns h1 h2
  refine ⟨H, fun _ => none, _, fun _ => False, _, os, .cons (S1 := fun _ => False) (S2 := fun _ => False) (.fr (.kl hS (Rs.of_ints ns))) .nil (fun _ z => z.elim) (fun _ z => z.elim) fun _ z => z.elim, Same.refl _, fun _ _ z => (nomatch z), fun _ z => z.elim, fun _ z => z.elim, e, ?_⟩
  intro v F' H' S1 S2 _ r _ _ _ _ _ _
  cases r with
  | fr r => exact r.bool_inv
end Tw
/-! CoreE: what the words give, for plain mathematics. -/
namespace Tw
open PySem PySem.Spec PyProof.Rows L2

/-! ### unfolding -/
@[simp] theorem ev_nm (i : Nat) (ρ : En) : xNm i ρ = match ρ[i]? with | some (some o) => some o | _ => none := by cases ρ <;> rfl
@[simp] theorem ev_c (d : D) (ρ : En) : xC d ρ = some (.fr d) := by cases ρ <;> rfl
@[simp] theorem ev_1 (g f) (ρ : En) : x1 g f ρ = (f ρ).bind fun a => g [a] := by cases ρ <;> rfl
@[simp] theorem ev_2 (g fa fb) (ρ : En) : x2 g fa fb ρ = (fa ρ).bind fun a => (fb ρ).bind fun b => g [a, b] := by cases ρ <;> rfl
@[simp] theorem ev_L (g f) (ρ : En) : xL g f ρ = (f ρ).bind fun a => g a := by cases ρ <;> rfl
@[simp] theorem ev_aN (ρ : En) : aNil ρ = some [] := by cases ρ <;> rfl
@[simp] theorem ev_aC (f g) (ρ : En) : aCons f g ρ = (f ρ).bind fun a => (g ρ).bind fun b => some (a :: b) := by cases ρ <;> rfl
@[simp] theorem ev_F (f) (ρ : En) : xF f ρ = (f ρ).bind frz := by cases ρ <;> rfl
@[simp] theorem ev_tV (f) (ρ : En) : tV f ρ = (f ρ).bind oB := by cases ρ <;> rfl
@[simp] theorem ev_tAnd (f g) (ρ : En) : tAndF f g ρ = (f ρ).bind fun b => if b then g ρ else some false := by cases ρ <;> rfl
@[simp] theorem ev_tOr (f g) (ρ : En) : tOrF f g ρ = (f ρ).bind fun b => if b then some true else g ρ := by cases ρ <;> rfl
@[simp] theorem ev_tNot (f) (ρ : En) : tNotF f ρ = (f ρ).map (!·) := by cases ρ <;> rfl
@[simp] theorem ev_xAnd (f g) (ρ : En) : xAndF f g ρ = (f ρ).bind fun o => (oB o).bind fun b => if b then g ρ else some (.fr (.bool false)) := by cases ρ <;> rfl
@[simp] theorem ev_xOr (f g) (ρ : En) : xOrF f g ρ = (f ρ).bind fun o => (oB o).bind fun b => if b then some (.fr (.bool true)) else g ρ := by cases ρ <;> rfl
@[simp] theorem ev_xNot (f) (ρ : En) : xNotF f ρ = (f ρ).bind fun o => (oB o).map fun b => .fr (.bool (!b)) := by cases ρ <;> rfl
@[simp] theorem ev_xIf (c f g) (ρ : En) : xIfF c f g ρ = (c ρ).bind fun b => if b then f ρ else g ρ := by cases ρ <;> rfl
@[simp] theorem ev_Is (T f) (ρ : En) : xIs T f ρ = (f ρ).bind (gIs T) := by cases ρ <;> rfl
@[simp] theorem ev_IsN (n f) (ρ : En) : xIsN n f ρ = (f ρ).bind fun a => gIsN n [a, .fr .none] := by cases ρ <;> rfl
@[simp] theorem ev_Idx (f g) (ρ : En) : xIndex f g ρ = (f ρ).bind fun a => (g ρ).bind fun b => gIndex a b := by cases ρ <;> rfl
@[simp] theorem ev_J (f g) (ρ : En) : xJ f g ρ = (f ρ).bind fun os => if os.all O.lent then g os else none := by cases ρ <;> rfl
@[simp] theorem ev_a1 (f) (ρ : En) : a1 f ρ = (f ρ).map fun o => [o] := by cases ρ <;> rfl
@[simp] theorem ev_lc (fi u ft fe vs) (ρ : En) : xLc fi u ft fe vs ρ = (fi ρ).bind fun os => if os.length ≤ LINE then (lcGo u ft fe (wipeO ρ vs) os).map O.list else none := by cases ρ <;> rfl
@[simp] theorem ev_newD (ρ : En) : xNewD ρ = some (.dict []) := by cases ρ <;> rfl
@[simp] theorem ev_sortS (f) (ρ : En) : xSortS f ρ = (f ρ).bind gSortSet := by cases ρ <;> rfl
@[simp] theorem ev_LRng (f) (ρ : En) : xLRng f ρ = (f ρ).bind gLRng := by cases ρ <;> rfl
@[simp] theorem ev_sl (fa fl fh) (ρ : En) : xSl fa fl fh ρ = (fa ρ).bind fun a => (fl ρ).bind fun l => (fh ρ).bind fun h => gSl a l h := by cases ρ <;> rfl
@[simp] theorem ev_lift (f) (ρ : En) : liftM f ρ = (f (vw ρ)).bind fun o => if o.nb then some (o, ρ) else none := by cases ρ <;> rfl
@[simp] theorem ev_liftT (f) (ρ : En) : liftT f ρ = (f (vw ρ)).map fun b => (b, ρ) := by cases ρ <;> rfl
@[simp] theorem ev_frzM (f) (ρ : En) : frzM f ρ = (f ρ).bind fun r => (frz r.1).map fun o => (o, r.2) := by cases ρ <;> rfl
@[simp] theorem ev_mov (i) (ρ : En) : movM i ρ = match ρ[i]? with | some (some o) => some (o, ρ.set i none) | _ => none := by cases ρ <;> rfl
@[simp] theorem ev_maN (ρ : En) : maNilF ρ = some ([], ρ) := by cases ρ <;> rfl
@[simp] theorem ev_maC (f g) (ρ : En) : maConsF f g ρ = (f ρ).bind fun a => (g a.2).bind fun b => some (a.1 :: b.1, b.2) := by cases ρ <;> rfl
@[simp] theorem ev_LM (g f) (ρ : En) : xLM g f ρ = (f ρ).bind fun r => (g r.1).map fun o => (o, r.2) := by cases ρ <;> rfl
@[simp] theorem ev_seq (f g) (ρ : En) : sSeq f g ρ = (f ρ).bind fun r => match r with | .nx ρ' => g ρ' | r => some r := by cases ρ <;> rfl
@[simp] theorem ev_nx (ρ : En) : sNx ρ = some (.nx ρ) := by cases ρ <;> rfl
@[simp] theorem ev_bk (ρ : En) : sBk ρ = some (.bk ρ) := by cases ρ <;> rfl
@[simp] theorem ev_ct (ρ : En) : sCt ρ = some (.ct ρ) := by cases ρ <;> rfl
@[simp] theorem ev_if (c f g) (ρ : En) : sIf c f g ρ = (c ρ).bind fun r => if r.1 then f r.2 else g r.2 := by cases ρ <;> rfl
@[simp] theorem ev_ret (f) (ρ : En) : sRet f ρ = (f ρ).map fun r => .rt r.1 r.2 := by cases ρ <;> rfl
@[simp] theorem ev_retN (ρ : En) : sRetN ρ = some (.rt (.fr .none) ρ) := by cases ρ <;> rfl
@[simp] theorem ev_exp (f) (ρ : En) : sExp f ρ = (f ρ).map fun r => .nx r.2 := by cases ρ <;> rfl
@[simp] theorem ev_set (i f) (ρ : En) : sSet i f ρ = (f ρ).map fun r => .nx (r.2.set i (some r.1)) := by cases ρ <;> rfl
@[simp] theorem ev_tgt (u f) (ρ : En) : sTgt u f ρ = (f ρ).bind fun r => (u r.1).map fun us => .nx (setO r.2 us) := by cases ρ <;> rfl
@[simp] theorem ev_fz (i f) (ρ : En) : sFz i f ρ = (frzS i ρ).bind f := by cases ρ <;> rfl
@[simp] theorem ev_frzS (i) (ρ : En) : frzS i ρ = match ρ[i]? with | some (some o) => (frz o).map fun o' => ρ.set i (some o') | _ => none := by cases ρ <;> rfl
@[simp] theorem ev_aug (i g f) (ρ : En) : sAug i g f ρ = match ρ[i]? with | some (some (.fr d)) => (f ρ).bind fun r => (g [.fr d, r.1]).map fun o => .nx (r.2.set i (some o)) | _ => none := by cases ρ <;> rfl
@[simp] theorem ev_for (fi u b) (ρ : En) : sFor fi u b ρ = (fi ρ).bind fun os => forGo u b os ρ := by cases ρ <;> rfl
@[simp] theorem ev_itV (f g) (ρ : En) : itV f g ρ = (f (vw ρ)).bind fun os => if os.all O.lent && O.nbs os then g os else none := by cases ρ <;> rfl
@[simp] theorem ev_itR (f g) (ρ : En) : itR f g ρ = xJ f g (vr ρ) := by cases ρ <;> rfl
@[simp 500] theorem ev_vw_cons (x : Option O) (ρ : En) : vw (x :: ρ) = x.map O.vw :: vw ρ := by cases ρ <;> rfl
@[simp 500] theorem ev_vr_cons (x : Option O) (ρ : En) : vr (x :: ρ) = (match x with
  | some (.fr d) => some (.fr d)
  | some (.bo d) => some (.bo d)
  | _ => none) :: vr ρ := by cases ρ <;> rfl
@[simp] theorem ev_vr_nil : vr [] = [] := by exact (fun (h : True) => rfl) trivial
@[simp] theorem ev_vr_none (ρ : En) : vr (none :: ρ) = none :: vr ρ := by cases ρ <;> rfl
@[simp] theorem ev_vr_fr (d : D) (ρ : En) : vr (some (.fr d) :: ρ) = some (.fr d) :: vr ρ := by cases ρ <;> rfl
@[simp] theorem ev_vr_bo (d : D) (ρ : En) : vr (some (.bo d) :: ρ) = some (.bo d) :: vr ρ := by cases ρ <;> rfl
@[simp] theorem ev_vr_list (d) (ρ : En) : vr (some (.list d) :: ρ) = none :: vr ρ := by cases ρ <;> rfl
@[simp] theorem ev_vr_tup (d) (ρ : En) : vr (some (.tup d) :: ρ) = none :: vr ρ := by cases ρ <;> rfl
@[simp] theorem ev_vr_dict (d) (ρ : En) : vr (some (.dict d) :: ρ) = none :: vr ρ := by cases ρ <;> rfl
@[simp] theorem ev_mut (t m i f) (ρ : En) : xMut t m i f ρ = match ρ[i]? with
  | some (some o) => if t o then (f ρ).bind fun r => match r.2[i]? with
      | some (some o1) => (m o1 r.1).map fun y => (y.1, r.2.set i (some y.2))
      | _ => none
    else none
  | _ => none := by cases ρ <;> rfl
@[simp] theorem ev_isL (d) : isL (.list d) = true := by exact (fun (h : True) => rfl) trivial
@[simp] theorem ev_lent_fr (d) : O.lent (.fr d) = true := by exact (fun (h : True) => rfl) trivial
@[simp] theorem ev_lent_bo (d) : O.lent (.bo d) = true := by exact (fun (h : True) => rfl) trivial
@[simp] theorem ev_lent_list (d) : O.lent (.list d) = false := by exact (fun (h : True) => rfl) trivial
@[simp] theorem ev_uN (i) (o : O) : uN i o = some [(i, o)] := by exact (fun (h : True) => rfl) trivial
@[simp] theorem ev_uNil : uNil [] = some [] := by exact (fun (h : True) => rfl) trivial
@[simp] theorem ev_uCons (u w o os) : uCons u w (o :: os) = (u o).bind fun a => (w os).map fun b => a ++ b := by exact (fun (h : True) => rfl) trivial
@[simp] theorem ev_uT (n w ds) : uT n w (.fr (.tup ds)) = if ds.length = n then w (ds.map .fr) else none := by exact (fun (h : True) => rfl) trivial
@[simp] theorem ev_uTb (n w ds) : uT n w (.bo (.tup ds)) = if ds.length = n then w (ds.map mkbo) else none := by exact (fun (h : True) => rfl) trivial
@[simp] theorem ev_tYes (ρ : En) : tYesF ρ = some true := by cases ρ <;> rfl
@[simp] theorem ev_plV (i) (ρ : En) : plV i ρ = some (i, []) := by cases ρ <;> rfl
@[simp] theorem ev_plI (p i) (ρ : En) : plI p i ρ = (p ρ).bind fun r => (i (vw ρ)).bind fun o => match o.rd with
  | .int n => if 0 ≤ n ∧ n < 9223372036854775808 then some (r.1, r.2 ++ [.ix n.toNat]) else none
  | _ => none := by cases ρ <;> rfl
@[simp] theorem ev_put (m p i e) (ρ : En) : sPut m p i e ρ = (e ρ).bind fun r => (p r.2).bind fun q => match r.2[q.1]? with
  | some (some o) => (O.at' q.2 o).bind fun o1 => (i (vw r.2)).bind fun oi => if oi.nb then (m o1 [oi, r.1]).map fun y => .nx (r.2.set q.1 (some (O.putAt q.2 o y.2))) else none
  | _ => none := by cases ρ <;> rfl
@[simp] theorem ev_mutP (t m p f) (ρ : En) : xMutP t m p f ρ = (p ρ).bind fun r => match ρ[r.1]? with
  | some (some o) => (O.at' r.2 o).bind fun o1 => if t o1 then (f (vw ρ)).bind fun os => if O.nbs os then (m o1 os).map fun y => (y.1, ρ.set r.1 (some (O.putAt r.2 o y.2))) else none else none
  | _ => none := by cases ρ <;> rfl
@[simp] theorem ev_oNo (ρ : En) : oNo ρ = some none := by cases ρ <;> rfl
/-! ### operations -/
@[simp] theorem alw_t (i j) : gAlw i j = true := rfl
@[simp] theorem nb_int (i) : O.nb (.fr i) = true := by simp
@[simp] theorem frz_list {α : Type} (f : α → D) (xs : List α) : frz (.list (xs.map fun x => .fr (f x))) = some (.fr (.list (xs.map f))) := by
  unfold frz; simp [nbs_fr]
@[simp] theorem frz_dict (kvs) : frz (.dict kvs) = some (.fr (.dict kvs)) := by unfold frz; simp
@[simp] theorem frz_list0 : frz (.list []) = some (.fr (.list [])) := by unfold frz; simp
@[simp] theorem muAppend_list (os x) : muAppend (.list os) [x] = if os.length < LINE then some (.fr .none, .list (os ++ [x])) else none := rfl
@[simp] theorem muExtend_list (os us) : muExtend (.list os) [.list us] = if os.length + us.length ≤ LINE then some (.fr .none, .list (os ++ us)) else none := rfl
theorem atI_nn {α : Type} (xs : List α) {i : Int} (h : 0 ≤ i) : atI xs i = xs[i.toNat]? := by
  unfold atI ixN
  rw [if_pos h]
  split
  · rfl
  · rename_i hh
    rw [List.getElem?_eq_none (by omega)]
    rfl
@[simp] theorem atI_cast {α : Type} (xs : List α) (k : Nat) : atI xs (k : Int) = xs[k]? := by rw [atI_nn xs (Int.natCast_nonneg k)]; rfl
@[simp] theorem atI_lit {α : Type} (xs : List α) (k : Nat) : atI xs (@OfNat.ofNat Int k _) = xs[k]? := atI_cast xs k
@[simp] theorem atI_zero {α : Type} (xs : List α) : atI xs 0 = xs[0]? := atI_cast xs 0
@[simp] theorem atI_one {α : Type} (xs : List α) : atI xs 1 = xs[1]? := atI_cast xs 1
@[simp] theorem atI_succ {α : Type} (xs : List α) (k : Nat) : atI xs ((k : Int) + 1) = xs[k + 1]? := atI_cast xs (k + 1)
@[simp] theorem atI_map {α β : Type} (f : α → β) (xs : List α) (i : Int) : atI (xs.map f) i = (atI xs i).map f := by
  unfold atI
  rw [List.length_map]
  cases ixN xs.length i <;> simp
theorem bitsOk_of (a b : Nat) {i j : Int} (h1 : i.natAbs < 2 ^ a) (h2 : j.natAbs < 2 ^ b) (h : a + b < 134000000 := by decide) : bitsOk i j = true := by
  have k : ∀ (n m : Nat), n < 2 ^ m → n.log2 ≤ m := fun n m h => by
    by_cases z : n = 0
    · subst z; simp
    · exact Nat.le_of_lt ((Nat.log2_lt z).mpr h)
  unfold bitsOk
  refine decide_eq_true ?_
  by_cases ha : a = 0
  · subst ha
    have : i.natAbs = 0 := by simpa using h1
    rw [this]
    have := k _ _ h2
    simp
    omega
  by_cases hb : b = 0
  · subst hb
    have : j.natAbs = 0 := by simpa using h2
    rw [this]
    have := k _ _ h1
    simp
    omega
  have e1 : i.natAbs.log2 < a := by
    by_cases z : i.natAbs = 0
    · rw [z]; simp; omega
    · exact (Nat.log2_lt z).mpr h1
  have e2 : j.natAbs.log2 < b := by
    by_cases z : j.natAbs = 0
    · rw [z]; simp; omega
    · exact (Nat.log2_lt z).mpr h2
  omega
@[simp] theorem gIx_frl (ds : List D) (i : Int) : gIx [.fr (.list ds), .fr (.int i)] = (atI ds i).map .fr := by simp [gIx]
@[simp] theorem gIx_frt (ds : List D) (i : Int) : gIx [.fr (.tup ds), .fr (.int i)] = (atI ds i).map .fr := by simp [gIx]
@[simp] theorem gIx_bol (ds : List D) (i : Int) : gIx [.bo (.list ds), .fr (.int i)] = (atI ds i).map mkbo := by simp [gIx]
@[simp] theorem gIx_bot (ds : List D) (i : Int) : gIx [.bo (.tup ds), .fr (.int i)] = (atI ds i).map mkbo := by simp [gIx]
@[simp] theorem gIx_kl (ds : List D) (i : Int) : gIx [.fr (.kl ds), .fr (.int i)] = (atI ds i).map .fr := by simp [gIx]
theorem gIx_dic (kvs : List (D × D)) (k : D) (h : k.isKey = true) : gIx [.fr (.dict kvs), .fr k] = (D.look kvs k).map .fr := by
  unfold gIx
  simp only [rd_fr]
  cases k <;> simp [D.isKey] at h <;> rfl
theorem gIx_dicb (kvs : List (D × D)) (k : D) (h : k.isKey = true) : gIx [.bo (.dict kvs), .fr k] = (D.look kvs k).map mkbo := by
  unfold gIx
  simp only [rd_fr, rd_bo]
  cases k <;> simp [D.isKey] at h <;> rfl
@[simp] theorem gLst_def (os) : gLst os = if os.length ≤ LINE then some (.list os) else none := rfl
@[simp] theorem gTup_def (os) : Tw.gTup os = if os.length ≤ LINE then some (mkTup os) else none := rfl
@[simp] theorem gRng1_int (j : Int) : gRng1 [.fr (.int j)] = if OKR j then some ((rng 0 j).map fun i => .fr (.int i)) else none := by simp [gRng1, gRng]
@[simp] theorem gRng2_int (i j : Int) : gRng2 [.fr (.int i), .fr (.int j)] = if OKR i && OKR j then some ((rng i j).map fun i => .fr (.int i)) else none := by simp [gRng2, gRng]
@[simp] theorem gLRng1_int (j : Int) : gLRng [.fr (.int j)] = if OKR j && decide (j ≤ 16777216) then some (.list ((rng 0 j).map fun i => .fr (.int i))) else none := by simp [gLRng]
@[simp] theorem gLRng2_int (i j : Int) : gLRng [.fr (.int i), .fr (.int j)] = if OKR i && OKR j && decide (j - i ≤ 16777216) then some (.list ((rng i j).map fun i => .fr (.int i))) else none := by simp [gLRng]
@[simp] theorem gLen_o (os : List O) : gLen [.list os] = some (.fr (.int os.length)) := by simp [gLen, rds_eq]
@[simp] theorem gLen_l (ds) : gLen [.fr (.list ds)] = some (.fr (.int ds.length)) := by simp [gLen]
@[simp] theorem gLen_bl (ds) : gLen [.bo (.list ds)] = some (.fr (.int ds.length)) := by simp [gLen]
@[simp] theorem gLen_t (ds) : gLen [.fr (.tup ds)] = some (.fr (.int ds.length)) := by simp [gLen]
@[simp] theorem gLen_bt (ds) : gLen [.bo (.tup ds)] = some (.fr (.int ds.length)) := by simp [gLen]
@[simp] theorem gLen_k (ds) : gLen [.fr (.kl ds)] = some (.fr (.int ds.length)) := by simp [gLen]
@[simp] theorem gLen_d (ds) : gLen [.fr (.dict ds)] = some (.fr (.int ds.length)) := by simp [gLen]
@[simp] theorem gLen_bd (ds) : gLen [.bo (.dict ds)] = some (.fr (.int ds.length)) := by simp [gLen]
@[simp] theorem pow_18 : powOk 10 18 = true := by decide
@[simp] theorem pow_20 : powOk 10 20 = true := by decide
@[simp] theorem pow_25 : powOk 10 25 = true := by decide
theorem OKR_of {j : Int} (h1 : -1000000000000 ≤ j) (h2 : j ≤ 1000000000000) : OKR j = true := by
  unfold OKR
  have : j.natAbs < 4611686018427387904 := by omega
  exact Nat.blt_eq.mpr this
@[simp] theorem all_lent_map {α : Type} (f : α → D) (xs : List α) : (xs.map fun x => O.fr (f x)).all O.lent = true := by simp
theorem bitsOk_log {i j : Int} (h : i.natAbs.log2 + j.natAbs.log2 < 134000000) : bitsOk i j = true := decide_eq_true h
theorem log2_le {n m : Nat} (h : n < 2 ^ (m + 1)) : n.log2 ≤ m := by
  by_cases z : n = 0
  · subst z; simp
  · have := (Nat.log2_lt z).mpr h; omega
theorem bitsOk_lit {i j : Int} (h1 : i.natAbs < 2 ^ 200) (h2 : j.natAbs.log2 ≤ 2000000) : bitsOk i j = true := bitsOk_log (by have := log2_le (m := 199) h1; omega)
theorem bitsOk_lit' {i j : Int} (h1 : i.natAbs.log2 ≤ 2000000) (h2 : j.natAbs < 2 ^ 200) : bitsOk i j = true := bitsOk_log (by have := log2_le (m := 199) h2; omega)
theorem bitsOk_sm {i j : Int} (h1 : i.natAbs < 2 ^ 200) (h2 : j.natAbs < 2 ^ 200) : bitsOk i j = true := bitsOk_log (by have := log2_le (m := 199) h1; have := log2_le (m := 199) h2; omega)
theorem divOk_of {i j : Int} (h1 : 0 < j) (h2 : j < 2 ^ 100) : divOk i j = true := by
  unfold divOk
  rw [decide_eq_true h1, Bool.true_and]
  have : j.natAbs < 2 ^ 100 := by omega
  have := log2_le (m := 99) this
  exact decide_eq_true (by omega)
theorem modOk_of {i j : Int} (h1 : 0 < j) : modOk i j = true := decide_eq_true h1
@[simp] theorem gCall_ev (fn : Fun1) (os : List O) : gCall fn os = if os.all O.lent then (fn os).map (·.1) else none := rfl
theorem muPopAt_nn (os : List O) {i : Int} (h0 : 0 ≤ i) (h1 : i < os.length) (h2 : os.length ≤ 16777216) : muPopAt (.list os) [.fr (.int i)] = (os[i.toNat]?).map fun x => (x, .list (os.eraseIdx i.toNat)) := by
  obtain ⟨n, rfl⟩ := Int.eq_ofNat_of_zero_le h0
  have hs : isSmall (n : Int) = true := by unfold isSmall; simp; omega
  have hq : seqIndex? (n : Int) os.length = some n := by unfold seqIndex?; simp; omega
  simp [muPopAt, hs, hq]
theorem eraseIdx_perm {α : Type} : ∀ (xs : List α) (i : Nat) (h : i < xs.length), (xs[i] :: xs.eraseIdx i).Perm xs
  | x :: xs, 0, _ => by simp
  | x :: xs, i + 1, h => by
    simp only [List.getElem_cons_succ, List.eraseIdx_cons_succ]
    exact (List.Perm.swap _ _ _).trans ((eraseIdx_perm xs i (by simpa using h)).cons x)
@[simp] theorem nbs_frm (ds : List D) : O.nbs (ds.map O.fr) = true := nbs_fr (fun d => d) ds
@[simp] theorem rds_frm (ds : List D) : O.rds (ds.map O.fr) = ds := by rw [rds_map]; simp
@[simp] theorem frz_frm (ds : List D) : frz (.list (ds.map O.fr)) = some (.fr (.list ds)) := by unfold frz; simp
@[simp] theorem all_lent_frm (ds : List D) : (ds.map O.fr).all O.lent = true := by simp
@[simp] theorem erase_map {α β : Type} (f : α → β) : ∀ (xs : List α) (i : Nat), (xs.map f).eraseIdx i = (xs.eraseIdx i).map f
  | [], _ => by simp
  | x :: xs, 0 => by simp
  | x :: xs, i + 1 => by simp [erase_map f xs i]
theorem rng_up (lo hi : Int) : (rng lo hi).Pairwise (· < ·) := by
  unfold rng
  rw [List.pairwise_map]
  exact List.pairwise_lt_range.imp fun h => by omega
theorem rng_nodup (lo hi : Int) : (rng lo hi).Nodup := (rng_up lo hi).imp fun h => by omega
theorem nodup_of_map {α β : Type} (f : α → β) {xs : List α} (h : (xs.map f).Nodup) : xs.Nodup := by
  unfold List.Nodup at h ⊢
  rw [List.pairwise_map] at h
  exact h.imp fun k e => k (by rw [e])
@[simp] theorem nbs_comp {α : Type} (f : α → D) (xs : List α) : O.nbs (xs.map (O.fr ∘ f)) = true := nbs_fr f xs
@[simp] theorem rds_comp {α : Type} (f : α → D) (xs : List α) : O.rds (xs.map (O.fr ∘ f)) = xs.map f := by rw [rds_map]; simp
@[simp] theorem frz_comp {α : Type} (f : α → D) (xs : List α) : frz (.list (xs.map (O.fr ∘ f))) = some (.fr (.list (xs.map f))) := by unfold frz; simp
@[simp 400] theorem nbs_all {α : Type} (g : α → O) (xs : List α) (h : ∀ x, (g x).nb = true) : O.nbs (xs.map g) = true := by rw [nbs_eq]; simp [h]
@[simp] theorem nbs_rev (xs : List O) : O.nbs xs.reverse = O.nbs xs := by rw [nbs_eq, nbs_eq, List.all_reverse]
@[simp] theorem gAdd_bol (ds : List D) (os : List O) : gAdd [.bo (.list ds), .list os] = if ds.length + os.length ≤ LINE then some (.list (ds.map mkbo ++ os)) else none := by simp [gAdd]
@[simp] theorem gAdd_frl (ds : List D) (os : List O) : gAdd [.fr (.list ds), .list os] = if ds.length + os.length ≤ LINE then some (.list (ds.map .fr ++ os)) else none := by simp [gAdd]
@[simp] theorem gAdd_frfr (ds es : List D) : gAdd [.fr (.list ds), .fr (.list es)] = if ds.length + es.length ≤ LINE then some (.list (ds.map .fr ++ es.map .fr)) else none := by simp [gAdd]
theorem perm_ints {es : List D} {ws : List Int} (h : es.Perm (ws.map D.int)) : ∃ es' : List Int, es = es'.map D.int ∧ es'.Perm ws := by
  have h2 := h.map fun d => match d with | .int i => i | _ => 0
  rw [List.map_map] at h2
  refine ⟨es.map fun d => match d with | .int i => i | _ => 0, ?_, h2.trans (by rw [show ((fun d => match d with | D.int i => i | _ => 0) ∘ D.int) = id from rfl, List.map_id])⟩
  rw [List.map_map]
  conv => lhs; rw [← List.map_id es]
  refine List.map_congr_left fun d hd => ?_
  obtain ⟨i, _, rfl⟩ := List.mem_map.mp (h.mem_iff.mp hd)
  rfl
/-! ### loops -/
theorem forGo_inv {u : O → Option Ups} {body : En → Option Res} (P : Nat → En → Prop) : ∀ (os : List O) (ρ : En), P 0 ρ → (∀ i o ρ, os[i]? = some o → P i ρ → ∃ us ρ', u o = some us ∧ (body (setO ρ us) = some (.nx ρ') ∨ body (setO ρ us) = some (.ct ρ')) ∧ P (i + 1) ρ') →
    ∃ ρ', forGo u body os ρ = some (.nx ρ') ∧ P os.length ρ' := by
  intro os
  induction os generalizing P with
  | nil => intro ρ h _; exact ⟨ρ, rfl, h⟩
  | cons o os ih =>
    intro ρ h hs
    obtain ⟨us, ρ', e1, e2, h'⟩ := hs 0 o ρ rfl h
    obtain ⟨ρ2, e3, h2⟩ := ih (fun i ρ => P (i + 1) ρ) ρ' h' fun i o ρ ho hp => hs (i + 1) o ρ (by simpa using ho) hp
    refine ⟨ρ2, ?_, h2⟩
    simp only [forGo, e1, Option.bind_some]
    rcases e2 with e2 | e2 <;> (rw [e2]; exact e3)
theorem lcGo_all {u : O → Option Ups} {ft : En → Option Bool} {fe : En → Option O} {ρ : En} (g : O → O) : ∀ os : List O, (∀ o ∈ os, ∃ us, u o = some us ∧ ft (setO ρ us) = some true ∧ fe (setO ρ us) = some (g o)) → lcGo u ft fe ρ os = some (os.map g)
  | [], _ => rfl
  | o :: os, h => by
    obtain ⟨us, e1, e2, e3⟩ := h o List.mem_cons_self
    simp [lcGo, e1, e2, e3, lcGo_all g os fun o ho => h o (List.mem_cons_of_mem _ ho)]
theorem lcGo_flt {u : O → Option Ups} {ft : En → Option Bool} {fe : En → Option O} {ρ : En} (p : O → Bool) (g : O → O) : ∀ os : List O, (∀ o ∈ os, ∃ us, u o = some us ∧ ft (setO ρ us) = some (p o) ∧ (p o = true → fe (setO ρ us) = some (g o))) → lcGo u ft fe ρ os = some ((os.filter p).map g)
  | [], _ => rfl
  | o :: os, h => by
    obtain ⟨us, e1, e2, e3⟩ := h o List.mem_cons_self
    have ih := lcGo_flt p g os fun o ho => h o (List.mem_cons_of_mem _ ho)
    cases hp : p o with
    | true => simp [lcGo, e1, e2, hp, e3 hp, ih]
    | false => simp [lcGo, e1, e2, hp, ih]
theorem lcGo_gen {α : Type} {u : O → Option Ups} {ft : En → Option Bool} {fe : En → Option O} {ρ : En} (f : α → O) (us : α → Ups) (p : α → Bool) (g : α → O) : ∀ xs : List α, (∀ x ∈ xs, u (f x) = some (us x) ∧ ft (setO ρ (us x)) = some (p x) ∧ (p x = true → fe (setO ρ (us x)) = some (g x))) →
    lcGo u ft fe ρ (xs.map f) = some ((xs.filter p).map g)
  | [], _ => rfl
  | x :: xs, h => by
    obtain ⟨e1, e2, e3⟩ := h x List.mem_cons_self
    have ih := lcGo_gen f us p g xs fun y hy => h y (List.mem_cons_of_mem _ hy)
    cases hp : p x with
    | true => simp [lcGo, e1, e2, hp, e3 hp, ih]
    | false => simp [lcGo, e1, e2, hp, ih]
theorem lcGo_map {α : Type} {i : Nat} {fe : En → Option O} {ρ : En} (f : α → O) (g : α → O) (xs : List α) (h : ∀ x ∈ xs, fe (ρ.set i (some (f x))) = some (g x)) : lcGo (uN i) tYesF fe ρ (xs.map f) = some (xs.map g) := by
  rw [lcGo_gen f (fun x => [(i, f x)]) (fun _ => true) g xs fun x hx => ⟨rfl, rfl, fun _ => h x hx⟩]
  rw [List.filter_eq_self.mpr fun _ _ => rfl]
theorem lcGo_mapf {α : Type} {i : Nat} {ft : En → Option Bool} {fe : En → Option O} {ρ : En} (f : α → O) (p : α → Bool) (g : α → O) (xs : List α) (h : ∀ x ∈ xs, ft (ρ.set i (some (f x))) = some (p x) ∧ (p x = true → fe (ρ.set i (some (f x))) = some (g x))) : lcGo (uN i) ft fe ρ (xs.map f) = some ((xs.filter p).map g) :=
  lcGo_gen f (fun x => [(i, f x)]) p g xs fun x hx => ⟨rfl, h x hx⟩
theorem rng_nat (n : Nat) : (rng 0 (n : Int)) = (List.range n).map fun k => ((k : Nat) : Int) := by
  unfold rng
  simp
theorem lcGo_rng {i n : Nat} {fe : En → Option O} {ρ : En} (g : Nat → O) (h : ∀ k < n, fe (ρ.set i (some (.fr (.int (k : Nat))))) = some (g k)) : lcGo (uN i) tYesF fe ρ ((rng 0 (n : Int)).map fun i => O.fr (D.int i)) = some ((List.range n).map g) := by
  rw [rng_nat, List.map_map]
  exact lcGo_map (fun k : Nat => O.fr (.int (k : Nat))) g _ fun k hk => h k (List.mem_range.mp hk)
theorem lcGo_rngf {i n : Nat} {ft : En → Option Bool} {fe : En → Option O} {ρ : En} (p : Nat → Bool) (g : Nat → O) (h : ∀ k < n, ft (ρ.set i (some (.fr (.int (k : Nat))))) = some (p k) ∧ (p k = true → fe (ρ.set i (some (.fr (.int (k : Nat))))) = some (g k))) : lcGo (uN i) ft fe ρ ((rng 0 (n : Int)).map fun i => O.fr (D.int i)) = some (((List.range n).filter p).map g) := by
  rw [rng_nat, List.map_map]
  exact lcGo_mapf (fun k : Nat => O.fr (.int (k : Nat))) p g _ fun k hk => h k (List.mem_range.mp hk)
/-- a for over 0, 1, .. -/
theorem forGo_rng {i n : Nat} {body : En → Option Res} (P : Nat → En → Prop) {ρ : En} (h0 : P 0 ρ) (hs : ∀ k < n, ∀ ρ, P k ρ → ∃ ρ', (body (ρ.set i (some (.fr (.int (k : Nat))))) = some (.nx ρ') ∨ body (ρ.set i (some (.fr (.int (k : Nat))))) = some (.ct ρ')) ∧ P (k + 1) ρ') :
    ∃ ρ', forGo (uN i) body ((rng 0 (n : Int)).map fun i => O.fr (D.int i)) ρ = some (.nx ρ') ∧ P n ρ' := by
  obtain ⟨ρ', e, h⟩ := forGo_inv (u := uN i) (body := body) P ((rng 0 (n : Int)).map fun i => O.fr (D.int i)) ρ h0 fun j o ρ ho hp => by
    have hi := (List.getElem?_eq_some_iff.mp ho).1
    rw [List.length_map, rng_length] at hi
    rw [List.getElem?_map, rng_get _ _ _ (by omega)] at ho
    simp at ho
    subst ho
    obtain ⟨ρ', e, h⟩ := hs j (by omega) ρ hp
    exact ⟨_, ρ', rfl, e, h⟩
  exact ⟨ρ', e, by simpa using h⟩
/-- a for over what stands in a list -/
theorem forGo_map {α : Type} {i : Nat} {body : En → Option Res} (f : α → O) (P : List α → En → Prop) : ∀ (xs : List α) (ρ : En), P xs ρ → (∀ x r ρ, P (x :: r) ρ → ∃ ρ', (body (ρ.set i (some (f x))) = some (.nx ρ') ∨ body (ρ.set i (some (f x))) = some (.ct ρ')) ∧ P r ρ') → ∃ ρ', forGo (uN i) body (xs.map f) ρ = some (.nx ρ') ∧ P [] ρ'
  | [], ρ, h, _ => ⟨ρ, rfl, h⟩
  | x :: xs, ρ, h, hs => by
    obtain ⟨ρ1, e1, h1⟩ := hs x xs ρ h
    obtain ⟨ρ2, e2, h2⟩ := forGo_map f P xs ρ1 h1 hs
    refine ⟨ρ2, ?_, h2⟩
    have e1' : body (setO ρ [(i, f x)]) = some (.nx ρ1) ∨ body (setO ρ [(i, f x)]) = some (.ct ρ1) := e1
    simp only [List.map_cons, forGo, ev_uN, Option.bind_some]
    rcases e1' with e | e <;> (rw [e]; exact e2)
@[simp] theorem gSortSet_ints (ts : List Int) : gSortSet (.fr (.list (ts.map D.int))) = if ts.length ≤ 4000 then some (.list ((sortU ts).map fun i => .fr (.int i))) else none := by simp [gSortSet]
@[simp] theorem gZip_ints (ws ts : List Int) : gZip [.fr (.list (ws.map D.int)), .fr (.list (ts.map D.int))] = some ((ws.zip ts).map fun p => .fr (.tup [.int p.1, .int p.2])) := by
  have := pairsO_fr D.int D.int ws ts
  unfold gZip
  simp only [List.map_map]
  exact this
theorem sortU_len : ∀ ts : List Int, (sortU ts).length ≤ ts.length
  | [] => by simp [sortU]
  | t :: ts => by
    have h : ∀ (x : Int) (ys : List Int), (insU x ys).length ≤ ys.length + 1 := fun x ys => by
      induction ys with
      | nil => simp [insU]
      | cons y ys ih =>
        unfold insU
        split
        · simp
        · split
          · simp
          · simp; omega
    unfold sortU
    have := h t (sortU ts)
    have := sortU_len ts
    simp only [List.length_cons]
    omega
theorem flatMap_len {α β : Type} (f : α → List β) (n : Nat) : ∀ xs : List α, (∀ x ∈ xs, (f x).length ≤ n) → (xs.flatMap f).length ≤ xs.length * n
  | [], _ => by simp
  | x :: xs, h => by
    rw [List.flatMap_cons, List.length_append, List.length_cons, Nat.succ_mul]
    have := h x List.mem_cons_self
    have := flatMap_len f n xs fun y hy => h y (List.mem_cons_of_mem _ hy)
    omega
theorem sorted_uniq {α : Type} {lt : α → α → Prop} (asym : ∀ a b, lt a b → ¬ lt b a) : ∀ {xs ys : List α}, xs.Pairwise lt → ys.Pairwise lt → (∀ z, z ∈ xs ↔ z ∈ ys) → xs = ys
  | [], [], _, _, _ => rfl
  | [], y :: ys, _, _, h => by have := (h y).mpr List.mem_cons_self; cases this
  | x :: xs, [], _, _, h => by have := (h x).mp List.mem_cons_self; cases this
  | x :: xs, y :: ys, hx, hy, h => by
    obtain ⟨a1, a2⟩ := List.pairwise_cons.mp hx
    obtain ⟨b1, b2⟩ := List.pairwise_cons.mp hy
    have irr : ∀ a, ¬ lt a a := fun a k => asym a a k k
    have e : x = y := by
      rcases List.mem_cons.mp ((h x).mp List.mem_cons_self) with r | r
      · exact r
      · rcases List.mem_cons.mp ((h y).mpr List.mem_cons_self) with t | t
        · exact t.symm
        · exact absurd (b1 x r) (asym _ _ (a1 y t))
    subst e
    rw [sorted_uniq asym a2 b2 fun z => ?_]
    constructor
    · intro hz
      rcases List.mem_cons.mp ((h z).mp (List.mem_cons_of_mem _ hz)) with r | r
      · subst r; exact absurd (a1 z hz) (irr z)
      · exact r
    · intro hz
      rcases List.mem_cons.mp ((h z).mpr (List.mem_cons_of_mem _ hz)) with r | r
      · subst r; exact absurd (b1 z hz) (irr z)
      · exact r
def lexLe {α : Type} (f g : α → Int) (a b : α) : Bool := decide (f a < f b ∨ (f a = f b ∧ g a ≤ g b))
theorem gSorted_ii {α : Type} (f g : α → Int) (xs : List α) : gSorted [.list (xs.map fun a => .fr (.tup [.int (f a), .int (g a)]))] = some (.list ((xs.mergeSort (lexLe f g)).map fun a => .fr (.tup [.int (f a), .int (g a)]))) := by
  have e : ((xs.map fun a => O.fr (.tup [.int (f a), .int (g a)])).mergeSort leO) = (xs.mergeSort (lexLe f g)).map fun a => .fr (.tup [.int (f a), .int (g a)]) := by
    refine (List.map_mergeSort fun a _ b _ => ?_).symm
    have := congrFun (congrFun (PySem.W.dataLe_ii (β := α) f g) a) b
    unfold lexLe leO dLe
    rw [← this]
    simp [D.py, D.pys, PySem.W.dataLe]
    rfl
  have o : sortOk (O.rds (xs.map fun a => O.fr (.tup [.int (f a), .int (g a)]))) = true := by
    rw [rds_map]
    unfold sortOk
    simp [D.tup1, D.py, D.pys, PySem.W.alike, PySem.W.alikeAll, shs_eq]
  unfold gSorted
  simp only [O.itsL, Option.bind_some]
  rw [o, e, Bool.and_true, if_pos (all_lent_map (fun a => D.tup [.int (f a), .int (g a)]) xs)]
theorem sort_class {n : Nat} (f : Nat → Int) (ts : List Int) (h : ∀ k < n, f k ∈ ts) : (List.range n).mergeSort (lexLe f fun k => (k : Int)) = (sortU ts).flatMap fun t => (List.range n).filter fun k => f k = t := by
  have asym : ∀ a b : Nat, (f a < f b ∨ (f a = f b ∧ a < b)) → ¬ (f b < f a ∨ (f b = f a ∧ b < a)) := fun a b => by omega
  refine sorted_uniq (lt := fun a b : Nat => f a < f b ∨ (f a = f b ∧ a < b)) asym ?_ ?_ ?_
  · have p1 : ((List.range n).mergeSort (lexLe f fun k => (k : Int))).Pairwise fun a b => lexLe f (fun k => (k : Int)) a b = true := by
      refine List.pairwise_mergeSort (fun a b c h1 h2 => ?_) (fun a b => ?_) _
      · unfold lexLe at *
        simp only [decide_eq_true_eq] at *
        omega
      · unfold lexLe
        simp only [Bool.or_eq_true, decide_eq_true_eq]
        omega
    have p2 : ((List.range n).mergeSort (lexLe f fun k => (k : Int))).Nodup := (List.mergeSort_perm _ _).nodup_iff.mpr List.nodup_range
    refine (p1.and p2).imp fun {a b} h => ?_
    obtain ⟨h1, h2⟩ := h
    unfold lexLe at h1
    simp only [decide_eq_true_eq] at h1
    omega
  · have up := sortU_up ts
    generalize sortU ts = us at up
    clear h
    induction us with
    | nil => simp
    | cons t us ih =>
      obtain ⟨u1, u2⟩ := List.pairwise_cons.mp up
      rw [List.flatMap_cons, List.pairwise_append]
      refine ⟨?_, ih u2, fun a ha b hb => ?_⟩
      · refine (List.pairwise_lt_range.filter _).imp_of_mem fun {a b} ha hb h => ?_
        have h1 := of_decide_eq_true (List.mem_filter.mp ha).2
        have h2 := of_decide_eq_true (List.mem_filter.mp hb).2
        omega
      · have h1 := of_decide_eq_true (List.mem_filter.mp ha).2
        obtain ⟨t', ht, hb⟩ := List.mem_flatMap.mp hb
        have h2 := of_decide_eq_true (List.mem_filter.mp hb).2
        have := u1 t' ht
        omega
  · intro z
    rw [(List.mergeSort_perm _ _).mem_iff, List.mem_flatMap]
    constructor
    · intro hz
      exact ⟨f z, (mem_sortU _).mpr (h z (List.mem_range.mp hz)), List.mem_filter.mpr ⟨hz, by simp⟩⟩
    · rintro ⟨t, _, hz⟩
      exact (List.mem_filter.mp hz).1
/-! ### places of ints -/
def pos (ws : List Int) (w : Int) : Nat := ws.findIdx fun x => decide (x = w)
theorem pos_lt {ws : List Int} {w : Int} (h : w ∈ ws) : pos ws w < ws.length := List.findIdx_lt_length_of_exists ⟨w, h, by simp⟩
theorem pos_get {ws : List Int} {w : Int} (h : w ∈ ws) : ws[pos ws w]'(pos_lt h) = w := by
  have := List.findIdx_getElem (xs := ws) (p := fun x => decide (x = w)) (w := pos_lt h)
  exact of_decide_eq_true this
@[simp] theorem shs_ints (ws : List Int) (n : Nat) : D.shs (ws.map D.int) n = true := shs_map fun _ _ => by simp
theorem gIndex_int {ws : List Int} {w : Int} (h : w ∈ ws) : gIndex (.fr (.list (ws.map D.int))) (.fr (.int w)) = some (.fr (.int (pos ws w))) := by
  have e : idx (ws.map D.int) (.int w) = some (pos ws w) := by
    unfold idx pos
    rw [List.findIdx?_map]
    have : ((fun z => z.eqv (D.int w)) ∘ D.int) = fun x : Int => decide (x = w) := by funext x; simp
    rw [this, List.findIdx?_eq_some_iff_findIdx_eq]
    exact ⟨pos_lt h, rfl⟩
  simp [gIndex, e]
theorem gIn_int (neg : Bool) (ws : List Int) (w : Int) : gIn neg [.fr (.int w), .fr (.list (ws.map D.int))] = some (.fr (.bool (xor neg (decide (w ∈ ws))))) := by
  have : (ws.map D.int).any (fun z => D.eqv z (.int w)) = decide (w ∈ ws) := by
    rw [List.any_map]
    apply Bool.eq_iff_iff.mpr
    simp
  simp [gIn, this]
theorem rng1_nat (n : Nat) : rng 1 (n : Int) = (List.range (n - 1)).map fun k => ((k : Nat) : Int) + 1 := by
  unfold rng
  rw [show ((n : Int) - 1).toNat = n - 1 by omega]
  exact List.map_congr_left fun k _ => by omega
/-- a for over 1, 2, .. -/
theorem forGo_rng1 {i n : Nat} {body : En → Option Res} (P : Nat → En → Prop) {ρ : En} (h0 : P 0 ρ) (hs : ∀ k, k + 1 < n → ∀ ρ, P k ρ → ∃ ρ', (body (ρ.set i (some (.fr (.int ((k : Nat) + 1))))) = some (.nx ρ') ∨ body (ρ.set i (some (.fr (.int ((k : Nat) + 1))))) = some (.ct ρ')) ∧ P (k + 1) ρ') :
    ∃ ρ', forGo (uN i) body ((rng 1 (n : Int)).map fun i => O.fr (D.int i)) ρ = some (.nx ρ') ∧ P (n - 1) ρ' := by
  obtain ⟨ρ', e, h⟩ := forGo_inv (u := uN i) (body := body) P ((rng 1 (n : Int)).map fun i => O.fr (D.int i)) ρ h0 fun j o ρ ho hp => by
    have hi := (List.getElem?_eq_some_iff.mp ho).1
    rw [List.length_map, rng_length] at hi
    rw [List.getElem?_map, rng_get _ _ _ (by omega)] at ho
    simp at ho
    subst ho
    obtain ⟨ρ', e, h⟩ := hs j (by omega) ρ hp
    rw [show (j : Int) + 1 = 1 + (j : Int) by omega] at e
    exact ⟨_, ρ', rfl, e, h⟩
  exact ⟨ρ', e, by
    rw [List.length_map, rng_length, show ((n : Int) - 1).toNat = n - 1 by omega] at h
    exact h⟩
theorem lcGo_rng1f {i n : Nat} {ft : En → Option Bool} {fe : En → Option O} {ρ : En} (p : Nat → Bool) (g : Nat → O) (h : ∀ k, k + 1 < n → ft (ρ.set i (some (.fr (.int ((k : Nat) + 1))))) = some (p k) ∧ (p k = true → fe (ρ.set i (some (.fr (.int ((k : Nat) + 1))))) = some (g k))) : lcGo (uN i) ft fe ρ ((rng 1 (n : Int)).map fun i => O.fr (D.int i)) = some (((List.range (n - 1)).filter p).map g) := by
  rw [rng1_nat, List.map_map]
  exact lcGo_mapf (fun k : Nat => O.fr (.int ((k : Nat) + 1))) p g _ fun k hk => h k (by have := List.mem_range.mp hk; omega)
/-! ### data that may be lent either way -/
def O.isV (o : O) (d : D) : Prop := o = .fr d ∨ o = mkbo d
mutual
/-- plain data of nesting at most n, of small lists -/
def D.sm : D → Nat → Bool
  | .none, _ => true
  | .bool _, _ => true
  | .int _, _ => true
  | .str s, _ => PyData.strOk s
  | .list xs, n => decide (0 < n) && decide (xs.length ≤ 1000000) && D.sms xs (n - 1)
  | .tup xs, n => decide (0 < n) && decide (xs.length ≤ 1000000) && D.sms xs (n - 1)
  | _, _ => false
def D.sms : List D → Nat → Bool
  | [], _ => true
  | x :: xs, n => D.sm x n && D.sms xs n
end
theorem sms_eq (n : Nat) : ∀ xs : List D, D.sms xs n = xs.all fun x => D.sm x n
  | [] => by simp [D.sms]
  | x :: xs => by simp [D.sms, sms_eq n xs]
mutual
theorem sm_sh : ∀ (d : D) (n m : Nat), n ≤ m → D.sm d n = true → D.sh d m = true
  | .none, _, _, _, _ => by simp
  | .bool _, _, _, _, _ => by simp
  | .int _, _, _, _, _ => by simp
  | .str s, _, _, _, h => by simpa [D.sm] using h
  | .list xs, n, m, hm, h => by
    simp only [D.sm, Bool.and_eq_true, decide_eq_true_eq] at h
    simp only [D.sh, Bool.and_eq_true, decide_eq_true_eq]
    exact ⟨by omega, sms_shs xs (n - 1) (m - 1) (by omega) h.2⟩
  | .tup xs, n, m, hm, h => by
    simp only [D.sm, Bool.and_eq_true, decide_eq_true_eq] at h
    simp only [D.sh, Bool.and_eq_true, decide_eq_true_eq]
    exact ⟨by omega, sms_shs xs (n - 1) (m - 1) (by omega) h.2⟩
  | .dict _, _, _, _, h => by simp [D.sm] at h
  | .obj _ _, _, _, _, h => by simp [D.sm] at h
  | .kl _, _, _, _, h => by simp [D.sm] at h
theorem sms_shs : ∀ (d : List D) (n m : Nat), n ≤ m → D.sms d n = true → D.shs d m = true
  | [], _, _, _, _ => by simp
  | x :: xs, n, m, hm, h => by
    simp only [D.sms, Bool.and_eq_true] at h
    simp only [shs_cons, Bool.and_eq_true]
    exact ⟨sm_sh x n m hm h.1, sms_shs xs n m hm h.2⟩
end
theorem gIx_V {o : O} {xs : List D} (h : o.isV (.list xs)) {k : Nat} {d : D} (e : xs[k]? = some d) : ∃ p, gIx [o, .fr (.int k)] = some p ∧ p.isV d := by
  rcases h with rfl | rfl
  · exact ⟨.fr d, by simp [e], .inl rfl⟩
  · exact ⟨mkbo d, by simp [e], .inr rfl⟩
theorem gIx_VT {o : O} {xs : List D} (h : o.isV (.tup xs)) {k : Nat} {d : D} (e : xs[k]? = some d) : ∃ p, gIx [o, .fr (.int k)] = some p ∧ p.isV d := by
  rcases h with rfl | rfl
  · exact ⟨.fr d, by simp [e], .inl rfl⟩
  · exact ⟨mkbo d, by simp [e], .inr rfl⟩
theorem isV_rd {o : O} {d : D} (h : o.isV d) : o.rd = d := by rcases h with rfl | rfl <;> simp
theorem isV_lent {o : O} {d : D} (h : o.isV d) : o.lent = true := by
  rcases h with rfl | rfl
  · rfl
  · unfold mkbo; split <;> rfl
theorem isV_vw {o : O} {d : D} (h : o.isV d) : o.vw = o := by
  rcases h with rfl | rfl
  · rfl
  · unfold mkbo; split <;> rfl
theorem gIs_V {o : O} {d : D} (h : o.isV d) (hd : d.noObj = true) (T : Ty) : gIs T o = some (.fr (.bool (d.is T))) := by unfold gIs; rw [isV_rd h, if_pos hd]
theorem gLen_VL {o : O} {xs : List D} (h : o.isV (.list xs)) : gLen [o] = some (.fr (.int xs.length)) := by rcases h with rfl | rfl <;> simp
theorem gLen_VT {o : O} {xs : List D} (h : o.isV (.tup xs)) : gLen [o] = some (.fr (.int xs.length)) := by rcases h with rfl | rfl <;> simp
theorem gIsN_V {o : O} {d : D} (h : o.isV d) (b : Bool) : gIsN b [o, .fr .none] = gIsN b [.fr d, .fr .none] := by
  show some (O.fr (D.bool (b ^^ o.rd.isN))) = some (O.fr (D.bool (b ^^ (O.fr d).rd.isN)))
  rw [isV_rd h, rd_fr]
/-! ### dicts of ints -/
def kvI (f : Int → Int) (ws : List Int) : List (D × D) := ws.map fun w => (.int w, .int (f w))
theorem look_kvI (f : Int → Int) (w : Int) : ∀ ws : List Int, D.look (kvI f ws) (.int w) = if w ∈ ws then some (.int (f w)) else none
  | [] => by simp [kvI, D.look]
  | x :: xs => by
    have ih := look_kvI f w xs
    unfold kvI at ih ⊢
    simp only [List.map_cons, D.look, eqv_int, ih]
    by_cases h : x = w
    · subst h; simp
    · have h' : ¬ w = x := fun e => h e.symm
      simp [h, h']
theorem put_kvI_new (f : Int → Int) (ws : List Int) {w : Int} (h : w ∉ ws) : D.put (kvI f ws) (.int w) (.int (f w)) = kvI f (ws ++ [w]) := by
  unfold D.put
  rw [look_kvI, if_neg h]
  simp [kvI]
theorem put_kvI_old (f : Int → Int) (ws : List Int) {w : Int} (h : w ∈ ws) (d : Int) : D.put (kvI f ws) (.int w) (.int d) = kvI (fun x => if x = w then d else f x) ws := by
  unfold D.put
  rw [look_kvI, if_pos h]
  simp only [Option.isSome_some, if_true, kvI, List.map_map]
  refine List.map_congr_left fun x _ => ?_
  by_cases e : x = w <;> simp [e]
theorem kvI_congr {f g : Int → Int} {ws : List Int} (h : ∀ w ∈ ws, f w = g w) : kvI f ws = kvI g ws := List.map_congr_left fun w hw => by rw [h w hw]
@[simp] theorem kvI_length (f : Int → Int) (ws : List Int) : (kvI f ws).length = ws.length := by simp [kvI]
theorem gIx_kvI (f : Int → Int) {ws : List Int} {w : Int} (h : w ∈ ws) : gIx [.fr (.dict (kvI f ws)), .fr (.int w)] = some (.fr (.int (f w))) := by
  rw [gIx_dic _ _ rfl, look_kvI, if_pos h]; rfl
theorem gIx_kvIb (f : Int → Int) {ws : List Int} {w : Int} (h : w ∈ ws) : gIx [.bo (.dict (kvI f ws)), .fr (.int w)] = some (.fr (.int (f w))) := by
  rw [gIx_dicb _ _ rfl, look_kvI, if_pos h]; rfl
@[simp] theorem muPutD_int (kvs : List (D × D)) (k : Int) (d : D) : muPutD (.dict kvs) [.fr (.int k), .fr d] = if kvs.length < LINE then some (.fr .none, .dict (D.put kvs (.int k) d)) else none := by simp [muPutD, D.isKey]
theorem whGo_steps {c : En → Option (Bool × En)} {body : En → Option Res} (st : Nat → En) (L : Nat) (h1 : ∀ p < L, c (st p) = some (true, st p) ∧ body (st p) = some (.nx (st (p + 1)))) (h2 : c (st L) = some (false, st L)) : ∀ n p, p + n = L → whGo c body (n + 1) (st p) = some (.nx (st L))
  | 0, p, e => by
    have : p = L := by omega
    subst this
    simp [whGo, h2]
  | n + 1, p, e => by
    obtain ⟨a, b⟩ := h1 p (by omega)
    rw [whGo, a]
    simp only [Option.bind_some, if_true, b]
    exact whGo_steps st L h1 h2 n (p + 1) (by omega)
theorem pos_mid {don r : List Int} {w : Int} (h : w ∉ don) : pos (don ++ w :: r) w = don.length := by
  unfold pos
  rw [List.findIdx_append]
  have : ¬ List.findIdx (fun x => decide (x = w)) don < don.length := by
    rw [List.findIdx_lt_length]
    rintro ⟨x, hx, e⟩
    have := of_decide_eq_true e
    subst this
    exact h hx
  rw [if_neg this]
  simp [List.findIdx_cons]
end Tw
set_option maxHeartbeats 0
namespace K67
open PySem PySem.Spec PyProof.Rows L2 Tw
def topS (i : Nat) : Stmt := PySem.Challenge.pw_trackswhole_k67_sorting_in_passes.main.body.getD i (.Pass ⟨0, 0, 0, 0⟩)
abbrev s_run_heads : Stmt := topS 1
abbrev N_run_heads : List Str := ["arriving", "departing", "found", "k"]
theorem sc_run_heads : FnScope N_run_heads ["arriving", "departing"] (defScope s_run_heads) := ⟨rfl, rfl, rfl, by decide +kernel, rfl, by decide +kernel, by decide +kernel⟩
-- slots of run_heads: 0=arriving 1=departing 2=found 3=k own: found
def b_run_heads_1 : En → Option Res :=
  (sIf (liftT (tV (x2 gGt (xIndex (xNm 0) (x2 gIx (xNm 1) (x2 gSub (xNm 3) (xC (.int 1))))) (xIndex (xNm 0) (x2 gIx (xNm 1) (xNm 3))))))
  (sExp (xMut isL muAppend 2 (maConsF (frzM (liftM (x2 gIx (xNm 1) (xNm 3)))) maNilF)))
  sNx)
def b_run_heads : En → Option Res :=
  (sSeq (sSet 2 (liftM (xL gLst aNil))) (sSeq (sFor (itV (aCons (xC (.int 1)) (aCons (xL gLen (aCons (xNm 1) aNil)) aNil)) gRng2) (uN 3) b_run_heads_1) (sRet (movM 2))))
def fn_run_heads : Fun1 := fnP 4 2 b_run_heads
theorem ok_run_heads {P : Program} {w : World} {K : PySem.W.Frag} {mg : Str → Option Value} {base : Heap} (W : Got K mg "run_heads" s_run_heads) (z_len : mg "len" = none) (z_range : mg "range" = none) : FnX P w K mg base "run_heads" 1 fn_run_heads :=
  fnX_pure (k := 0) (N := N_run_heads) (ps := ["arriving", "departing"]) (f := b_run_heads) W sc_run_heads (fun fa cdv A outer s H E hr => ⟨_, (bCons (kSet 2 sc_run_heads.nd (mL (xLst ax_nil))) (bCons (kForV (f := b_run_heads_1) PassesOwn.never rfl (jRng2 (by rfl) z_range xInt (xLen (by rfl) z_len (xv 1))) (gN 3 sc_run_heads.nd)
  (bOne (kIf (mT (tGtX (xIdxR hr (xv 0) (xIx hr (xv 1) (xSub (xv 3) xInt))) (xIdxR hr (xv 0) (xIx hr (xv 1) (xv 3)))))
  (bOne (kExp (mAppend 2 (mF (mL (xIx hr (xv 1) (xv 3)))))))
  bNil))) (bOne (kRet (mV 2)))))⟩) (fun _ _ _ _ _ _ us hl => match us, hl with | [_, _], _ => rfl)
abbrev s_run_numbers : Stmt := topS 2
abbrev N_run_numbers : List Str := ["arriving", "departing", "heads", "found", "number", "wagon"]
theorem sc_run_numbers : FnScope N_run_numbers ["arriving", "departing"] (defScope s_run_numbers) := ⟨rfl, rfl, rfl, by decide +kernel, rfl, by decide +kernel, by decide +kernel⟩
-- slots of run_numbers: 0=arriving 1=departing 2=heads 3=found 4=number 5=wagon own: found
def b_run_numbers_1 : En → Option Res :=
  (sSeq (sIf (liftT (tV (x2 (gIn false) (xNm 5) (xNm 2))))
  (sAug 4 gAddI (liftM (xC (.int 1))))
  sNx) (sPut muPutD (plV 3) (xNm 5) (frzM (liftM (xNm 4)))))
def b_run_numbers : En → Option Res :=
  (sSeq (sSet 2 (frzM (liftM (xL (gCall fn_run_heads) (aCons (xNm 0) (aCons (xNm 1) aNil)))))) (sSeq (sSet 3 (liftM xNewD)) (sSeq (sSet 4 (frzM (liftM (xC (.int 0))))) (sSeq (sFor (itR (a1 (xNm 1)) gSeq) (uN 5) b_run_numbers_1) (sRet (movM 3))))))
def fn_run_numbers : Fun1 := fnP 6 2 b_run_numbers
theorem ok_run_numbers {P : Program} {w : World} {K : PySem.W.Frag} {mg : Str → Option Value} {base : Heap} (W : Got K mg "run_numbers" s_run_numbers) (ok_run_heads : FnX P w K mg base "run_heads" 1 fn_run_heads) : FnX P w K mg base "run_numbers" 2 fn_run_numbers :=
  fnX_pure (k := 1) (N := N_run_numbers) (ps := ["arriving", "departing"]) (f := b_run_numbers) W sc_run_numbers (fun fa cdv A outer s H E hr => ⟨_, (bCons (kSet 2 sc_run_numbers.nd (mF (mL (xCal ok_run_heads hr (by rfl) (ax_cons (xv 0) (ax_cons (xv 1) ax_nil)))))) (bCons (kSet 3 sc_run_numbers.nd (mL xDic)) (bCons (kSet 4 sc_run_numbers.nd (mF (mL xInt))) (bCons (kForR (f := b_run_numbers_1) PassesOwn.never rfl (jSeq (xv 1)) (gN 5 sc_run_numbers.nd)
  (bCons (kIf (mT (tInX hr (xv 5) (xv 2)))
  (bOne (kIncr 4 sc_run_numbers.nd (mL xInt)))
  bNil) (bOne (kPutD hr (mF (mL (xv 4))) (qV 3) (xv 5))))) (bOne (kRet (mV 3)))))))⟩) (fun _ _ _ _ _ _ us hl => match us, hl with | [_, _], _ => rfl)
abbrev s_power : Stmt := topS 3
abbrev N_power : List Str := ["k", "passes", "found", "_"]
theorem sc_power : FnScope N_power ["k", "passes"] (defScope s_power) := ⟨rfl, rfl, rfl, by decide +kernel, rfl, by decide +kernel, by decide +kernel⟩
-- slots of power: 0=k 1=passes 2=found 3=_ own: found
def b_power_1 : En → Option Res :=
  (sAug 2 gMul (liftM (xNm 0)))
def b_power : En → Option Res :=
  (sSeq (sSet 2 (liftM (xC (.int 1)))) (sSeq (sFor (itV (aCons (xNm 1) aNil) gRng1) (uN 3) b_power_1) (sRet (movM 2))))
def fn_power : Fun1 := fnP 4 2 b_power
theorem ok_power {P : Program} {w : World} {K : PySem.W.Frag} {mg : Str → Option Value} {base : Heap} (W : Got K mg "power" s_power) (z_range : mg "range" = none) : FnX P w K mg base "power" 1 fn_power :=
  fnX_pure (k := 0) (N := N_power) (ps := ["k", "passes"]) (f := b_power) W sc_power (fun fa cdv A outer s H E hr => ⟨_, (bCons (kSet 2 sc_power.nd (mL xInt)) (bCons (kForV (f := b_power_1) PassesOwn.never rfl (jRng1 (by rfl) z_range (xv 1)) (gN 3 sc_power.nd)
  (bOne (kIMul 2 sc_power.nd (mL (xv 0))))) (bOne (kRet (mV 2)))))⟩) (fun _ _ _ _ _ _ us hl => match us, hl with | [_, _], _ => rfl)
abbrev s_digit : Stmt := topS 4
abbrev N_digit : List Str := ["number", "k", "place", "_"]
theorem sc_digit : FnScope N_digit ["number", "k", "place"] (defScope s_digit) := ⟨rfl, rfl, rfl, by decide +kernel, rfl, by decide +kernel, by decide +kernel⟩
-- slots of digit: 0=number 1=k 2=place 3=_ own: 
def b_digit_1 : En → Option Res :=
  (sAug 0 gDiv (liftM (xNm 1)))
def b_digit : En → Option Res :=
  (sSeq (sFor (itV (aCons (xNm 2) aNil) gRng1) (uN 3) b_digit_1) (sRet (liftM (x2 gMod (xL gInt (aCons (xNm 0) aNil)) (xNm 1)))))
def fn_digit : Fun1 := fnP 4 3 b_digit
theorem ok_digit {P : Program} {w : World} {K : PySem.W.Frag} {mg : Str → Option Value} {base : Heap} (W : Got K mg "digit" s_digit) (z_int : mg "int" = none) (z_range : mg "range" = none) : FnX P w K mg base "digit" 1 fn_digit :=
  fnX_pure (k := 0) (N := N_digit) (ps := ["number", "k", "place"]) (f := b_digit) W sc_digit (fun fa cdv A outer s H E hr => ⟨_, (bCons (kForV (f := b_digit_1) PassesOwn.never rfl (jRng1 (by rfl) z_range (xv 2)) (gN 3 sc_digit.nd)
  (bOne (kIDiv 0 sc_digit.nd (mL (xv 1))))) (bOne (kRet (mL (xMod (xInt1 (by rfl) z_int (xv 0)) (xv 1))))))⟩) (fun _ _ _ _ _ _ us hl => match us, hl with | [_, _, _], _ => rfl)
abbrev s_after_pass : Stmt := topS 5
abbrev N_after_pass : List Str := ["train", "tracks", "found", "track", "wagon", "own"]
theorem sc_after_pass : FnScope N_after_pass ["train", "tracks"] (defScope s_after_pass) := ⟨rfl, rfl, rfl, by decide +kernel, rfl, by decide +kernel, by decide +kernel⟩
-- slots of after_pass: 0=train 1=tracks 2=found 3=track 4=wagon 5=own own: found
def b_after_pass_1 : En → Option Res :=
  (sExp (xMut isL muExtend 2 (maConsF (liftM (xLc (xJ (aCons (xNm 0) (aCons (xNm 1) aNil)) gZip) (uT 2 (uCons (uN 4) (uCons (uN 5) uNil))) (tV (x2 gEq (xNm 5) (xNm 3))) (xNm 4) [4, 5])) maNilF)))
def b_after_pass : En → Option Res :=
  (sSeq (sSet 2 (liftM (xL gLst aNil))) (sSeq (sFor (itV (a1 (xF (xSortS (xNm 1)))) gSeq) (uN 3) b_after_pass_1) (sRet (movM 2))))
def fn_after_pass : Fun1 := fnP 6 2 b_after_pass
theorem ok_after_pass {P : Program} {w : World} {K : PySem.W.Frag} {mg : Str → Option Value} {base : Heap} (W : Got K mg "after_pass" s_after_pass) (z_set : mg "set" = none) (z_sorted : mg "sorted" = none) (z_zip : mg "zip" = none) : FnX P w K mg base "after_pass" 1 fn_after_pass :=
  fnX_pure (k := 0) (N := N_after_pass) (ps := ["train", "tracks"]) (f := b_after_pass) W sc_after_pass (fun fa cdv A outer s H E hr => ⟨_, (bCons (kSet 2 sc_after_pass.nd (mL (xLst ax_nil))) (bCons (kForV (f := b_after_pass_1) PassesOwn.never rfl (jSeq (xf (xSortSet rfl (by rfl) z_sorted (by rfl) z_set (xv 1)))) (gN 3 sc_after_pass.nd)
  (bOne (kExp (mExtend 2 (mL (xComp (own := [("wagon", 4), ("own", 5)]) (g := (L2.gTup K 2 (gCons (gName 4) (gCons (gName 5) gNil)))) (tt := (tTest (tOp (rEqX K) (tVar 5) (tVar 3)))) (te := (tVar 4)) rfl sc_after_pass.nd (jZip (by rfl) z_zip (xv 0) (xv 1)) (blkOk_by (own := [("wagon", 4), ("own", 5)]) (N := N_after_pass) (sc := defScope s_after_pass) (by decide +kernel)) (fun _ _ _ _ _ => (gT rfl (gsCons (gN 4 sc_after_pass.nd) (gsCons (gN 5 sc_after_pass.nd) gsNil)))) (fun _ _ _ _ _ => (tsOne (tEqX hr (xv 5) (xv 3)))) (fun _ _ _ _ _ => (xv 4)) (by decide))))))) (bOne (kRet (mV 2)))))⟩) (fun _ _ _ _ _ _ us hl => match us, hl with | [_, _], _ => rfl)
abbrev s_in_passes : Stmt := topS 6
abbrev N_in_passes : List Str := ["arriving", "departing", "k", "passes", "heads", "numbers", "train", "found", "place", "tracks", "wagon"]
theorem sc_in_passes : FnScope N_in_passes ["arriving", "departing", "k", "passes"] (defScope s_in_passes) := ⟨rfl, rfl, rfl, by decide +kernel, rfl, by decide +kernel, by decide +kernel⟩
-- slots of in_passes: 0=arriving 1=departing 2=k 3=passes 4=heads 5=numbers 6=train 7=found 8=place 9=tracks 10=wagon own: found heads
def b_in_passes_1 : En → Option Res :=
  (sSeq (sSet 9 (frzM (liftM (xLc (xJ (a1 (xNm 6)) gSeq) (uN 10) tYesF (xL (gCall fn_digit) (aCons (x2 gIx (xNm 5) (xNm 10)) (aCons (xNm 2) (aCons (xNm 8) aNil)))) [10])))) (sSeq (sExp (xMut isL muAppend 7 (maConsF (frzM (liftM (xNm 9))) maNilF))) (sSet 6 (frzM (liftM (xL (gCall fn_after_pass) (aCons (xNm 6) (aCons (xNm 9) aNil))))))))
def b_in_passes : En → Option Res :=
  (sSeq (sSet 4 (liftM (xL (gCall fn_run_heads) (aCons (xNm 0) (aCons (xNm 1) aNil))))) (sSeq (sIf (liftT (tV (x2 gGe (xL gLen (aCons (xNm 4) aNil)) (xL (gCall fn_power) (aCons (xNm 2) (aCons (xNm 3) aNil))))))
  (sRet (xLM Tw.gTup (maConsF (frzM (liftM (xC (.str "runs")))) (maConsF (movM 4) maNilF))))
  sNx) (sSeq (sSet 5 (frzM (liftM (xL (gCall fn_run_numbers) (aCons (xNm 0) (aCons (xNm 1) aNil)))))) (sSeq (sSet 6 (frzM (liftM (xL gList (aCons (xNm 0) aNil))))) (sSeq (sSet 7 (liftM (xL gLst aNil))) (sSeq (sFor (itV (aCons (xNm 3) aNil) gRng1) (uN 8) b_in_passes_1) (sRet (xLM Tw.gTup (maConsF (frzM (liftM (xC (.str "tracks")))) (maConsF (movM 7) maNilF))))))))))
def fn_in_passes : Fun1 := fnP 11 4 b_in_passes
theorem ok_in_passes {P : Program} {w : World} {K : PySem.W.Frag} {mg : Str → Option Value} {base : Heap} (W : Got K mg "in_passes" s_in_passes) (z_len : mg "len" = none) (z_list : mg "list" = none) (z_range : mg "range" = none) (ok_run_heads : FnX P w K mg base "run_heads" 1 fn_run_heads) (ok_power : FnX P w K mg base "power" 1 fn_power) (ok_run_numbers : FnX P w K mg base "run_numbers" 2 fn_run_numbers) (ok_digit : FnX P w K mg base "digit" 1 fn_digit) (ok_after_pass : FnX P w K mg base "after_pass" 1 fn_after_pass) : FnX P w K mg base "in_passes" 3 fn_in_passes :=
  fnX_pure (k := 2) (N := N_in_passes) (ps := ["arriving", "departing", "k", "passes"]) (f := b_in_passes) W sc_in_passes (fun fa cdv A outer s H E hr => ⟨_, (bCons (kSet 4 sc_in_passes.nd (mL (xCal ok_run_heads hr (by rfl) (ax_cons (xv 0) (ax_cons (xv 1) ax_nil))))) (bCons (kIf (mT (tGeX (xLen (by rfl) z_len (xv 4)) (xCal ok_power hr (by rfl) (ax_cons (xv 2) (ax_cons (xv 3) ax_nil)))))
  (bOne (kRet (mTup (mCons (mF (mL xStr)) (mCons (mV 4) mNil)))))
  bNil) (bCons (kSet 5 sc_in_passes.nd (mF (mL (xCal ok_run_numbers hr (by rfl) (ax_cons (xv 0) (ax_cons (xv 1) ax_nil)))))) (bCons (kSet 6 sc_in_passes.nd (mF (mL (xList (by rfl) z_list (xv 0))))) (bCons (kSet 7 sc_in_passes.nd (mL (xLst ax_nil))) (bCons (kForV (f := b_in_passes_1) PassesOwn.never rfl (jRng1 (by rfl) z_range (xv 3)) (gN 8 sc_in_passes.nd)
  (bCons (kSetC (own := [("wagon", 10)]) (g := (gName 10)) (tt := tYes) (te := (tCall (Spg K mg fn_digit) [] E0 (tCons (tOp (rIxX K) (tVar 5) (tVar 10)) (tCons (tVar 2) (tCons (tVar 8) tNil))))) 9 rfl sc_in_passes.nd (jSeq (xv 6)) (blkOk_by (own := [("wagon", 10)]) (N := N_in_passes) (sc := defScope s_in_passes) (by decide +kernel)) (fun _ _ _ _ _ => (gN 10 sc_in_passes.nd)) (fun _ _ _ _ _ => tsNil) (fun _ _ _ _ _ => (xCal ok_digit hr (by rfl) (ax_cons (xIx hr (xv 5) (xv 10)) (ax_cons (xv 2) (ax_cons (xv 8) ax_nil)))))) (bCons (kExp (mAppend 7 (mF (mL (xv 9))))) (bOne (kSet 6 sc_in_passes.nd (mF (mL (xCal ok_after_pass hr (by rfl) (ax_cons (xv 6) (ax_cons (xv 9) ax_nil)))))))))) (bOne (kRet (mTup (mCons (mF (mL xStr)) (mCons (mV 7) mNil)))))))))))⟩) (fun _ _ _ _ _ _ us hl => match us, hl with | [_, _, _, _], _ => rfl)
abbrev s_least_passes : Stmt := topS 7
abbrev N_least_passes : List Str := ["arriving", "departing", "k", "count", "passes"]
theorem sc_least_passes : FnScope N_least_passes ["arriving", "departing", "k"] (defScope s_least_passes) := ⟨rfl, rfl, rfl, by decide +kernel, rfl, by decide +kernel, by decide +kernel⟩
-- slots of least_passes: 0=arriving 1=departing 2=k 3=count 4=passes own: passes
def b_least_passes_1 : En → Option Res :=
  (sAug 4 gAddI (liftM (xC (.int 1))))
def b_least_passes : En → Option Res :=
  (sSeq (sSet 3 (frzM (liftM (xL gLen (aCons (xL (gCall fn_run_heads) (aCons (xNm 0) (aCons (xNm 1) aNil))) aNil))))) (sSeq (sSet 4 (liftM (xC (.int 0)))) (sSeq (sWhile (liftT (tV (x2 gLe (xL (gCall fn_power) (aCons (xNm 2) (aCons (xNm 4) aNil))) (xNm 3)))) b_least_passes_1) (sRet (movM 4)))))
def fn_least_passes : Fun1 := fnP 5 3 b_least_passes
theorem ok_least_passes {P : Program} {w : World} {K : PySem.W.Frag} {mg : Str → Option Value} {base : Heap} (W : Got K mg "least_passes" s_least_passes) (z_len : mg "len" = none) (ok_run_heads : FnX P w K mg base "run_heads" 1 fn_run_heads) (ok_power : FnX P w K mg base "power" 1 fn_power) : FnX P w K mg base "least_passes" 2 fn_least_passes :=
  fnX_pure (k := 1) (N := N_least_passes) (ps := ["arriving", "departing", "k"]) (f := b_least_passes) W sc_least_passes (fun fa cdv A outer s H E hr => ⟨_, (bCons (kSet 3 sc_least_passes.nd (mF (mL (xLen (by rfl) z_len (xCal ok_run_heads hr (by rfl) (ax_cons (xv 0) (ax_cons (xv 1) ax_nil))))))) (bCons (kSet 4 sc_least_passes.nd (mL xInt)) (bCons (kWhile (f := b_least_passes_1) (fc := (liftT (tV (x2 gLe (xL (gCall fn_power) (aCons (xNm 2) (aCons (xNm 4) aNil))) (xNm 3))))) PassesOwn.never (mT (tLeX (xCal ok_power hr (by rfl) (ax_cons (xv 2) (ax_cons (xv 4) ax_nil))) (xv 3)))
  (bOne (kIncr 4 sc_least_passes.nd (mL xInt)))) (bOne (kRet (mV 4))))))⟩) (fun _ _ _ _ _ _ us hl => match us, hl with | [_, _, _], _ => rfl)
abbrev s__law_cell : Stmt := topS 9
abbrev N__law_cell : List Str := ["script", "k"]
theorem sc__law_cell : FnScope N__law_cell ["script", "k"] (defScope s__law_cell) := ⟨rfl, rfl, rfl, by decide +kernel, rfl, by decide +kernel, by decide +kernel⟩
-- slots of _law_cell: 0=script 1=k own: 
def b__law_cell : En → Option Res :=
  (sSeq (sIf (liftT (tV (x2 gLt (xNm 1) (xL gLen (aCons (xNm 0) aNil)))))
  (sRet (liftM (xL gInt (aCons (x2 gIx (xNm 0) (xNm 1)) aNil))))
  sNx) (sRet (liftM (x2 gAdd (x2 gMul (xC (.int 31)) (xNm 1)) (xC (.int 5))))))
def fn__law_cell : Fun1 := fnP 2 2 b__law_cell
theorem ok__law_cell {P : Program} {w : World} {K : PySem.W.Frag} {mg : Str → Option Value} {base : Heap} (W : Got K mg "_law_cell" s__law_cell) (z_int : mg "int" = none) (z_len : mg "len" = none) : FnX P w K mg base "_law_cell" 1 fn__law_cell :=
  fnX_pure (k := 0) (N := N__law_cell) (ps := ["script", "k"]) (f := b__law_cell) W sc__law_cell (fun fa cdv A outer s H E hr => ⟨_, (bCons (kIf (mT (tLtX (xv 1) (xLen (by rfl) z_len (xv 0))))
  (bOne (kRet (mL (xInt1 (by rfl) z_int (xIx hr (xv 0) (xv 1))))))
  bNil) (bOne (kRet (mL (xAdd (xMul xInt (xv 1)) xInt)))))⟩) (fun _ _ _ _ _ _ us hl => match us, hl with | [_, _], _ => rfl)
abbrev s__law_numbers : Stmt := topS 10
abbrev N__law_numbers : List Str := ["cell", "count", "limit", "found", "k", "mixed"]
theorem sc__law_numbers : FnScope N__law_numbers ["cell", "count", "limit"] (defScope s__law_numbers) := ⟨rfl, rfl, rfl, by decide +kernel, rfl, by decide +kernel, by decide +kernel⟩
-- slots of _law_numbers: 0=cell 1=count 2=limit 3=found 4=k 5=mixed own: found
def b__law_numbers_1 : En → Option Res :=
  (sSeq (sExp (xMut isL muAppend 3 (maConsF (frzM (liftM (x2 gMod (xL gInt (aCons (xNm 0) aNil)) (xNm 2)))) maNilF))) (sSet 0 (frzM (liftM (x2 gDiv (xL gInt (aCons (xNm 0) aNil)) (xNm 2))))))
def b__law_numbers_2 : En → Option Res :=
  (sSeq (sSet 5 (frzM (liftM (x2 gMod (xL gInt (aCons (x2 gAdd (x2 gAdd (x2 gMul (xNm 0) (xC (.int 48271))) (x2 gMul (xNm 4) (xC (.int 69621)))) (xC (.int 7))) aNil)) (xC (.int 2147483647)))))) (sSeq (sSet 5 (frzM (liftM (x2 gMod (xL gInt (aCons (x2 gAdd (x2 gAdd (x2 gAdd (x2 gMul (xNm 5) (xNm 5)) (x2 gMul (xNm 5) (xC (.int 40692)))) (x2 gMul (xNm 4) (xC (.int 16807)))) (xC (.int 11))) aNil)) (xC (.int 2147483399)))))) (sExp (xMut isL muAppend 3 (maConsF (frzM (liftM (x2 gMod (xL gInt (aCons (x2 gDiv (xNm 5) (xC (.int 32))) aNil)) (xNm 2)))) maNilF)))))
def b__law_numbers : En → Option Res :=
  (sSeq (sSet 3 (liftM (xL gLst aNil))) (sSeq (sIf (liftT (tV (x2 gGe (xNm 0) (x2 gPow (xC (.int 10)) (xC (.int 18))))))
  (sSeq (sSet 0 (frzM (liftM (x2 gSub (xNm 0) (x2 gPow (xC (.int 10)) (xC (.int 18))))))) (sSeq (sFor (itV (aCons (xNm 1) aNil) gRng1) (uN 4) b__law_numbers_1) (sRet (movM 3))))
  sNx) (sSeq (sFor (itV (aCons (xNm 1) aNil) gRng1) (uN 4) b__law_numbers_2) (sRet (movM 3)))))
def fn__law_numbers : Fun1 := fnP 6 3 b__law_numbers
theorem ok__law_numbers {P : Program} {w : World} {K : PySem.W.Frag} {mg : Str → Option Value} {base : Heap} (W : Got K mg "_law_numbers" s__law_numbers) (z_int : mg "int" = none) (z_range : mg "range" = none) : FnX P w K mg base "_law_numbers" 1 fn__law_numbers :=
  fnX_pure (k := 0) (N := N__law_numbers) (ps := ["cell", "count", "limit"]) (f := b__law_numbers) W sc__law_numbers (fun fa cdv A outer s H E hr => ⟨_, (bCons (kSet 3 sc__law_numbers.nd (mL (xLst ax_nil))) (bCons (kIf (mT (tGeX (xv 0) (xPow xInt xInt)))
  (bCons (kSet 0 sc__law_numbers.nd (mF (mL (xSub (xv 0) (xPow xInt xInt))))) (bCons (kForV (f := b__law_numbers_1) PassesOwn.never rfl (jRng1 (by rfl) z_range (xv 1)) (gN 4 sc__law_numbers.nd)
  (bCons (kExp (mAppend 3 (mF (mL (xMod (xInt1 (by rfl) z_int (xv 0)) (xv 2)))))) (bOne (kSet 0 sc__law_numbers.nd (mF (mL (xDiv (xInt1 (by rfl) z_int (xv 0)) (xv 2)))))))) (bOne (kRet (mV 3)))))
  bNil) (bCons (kForV (f := b__law_numbers_2) PassesOwn.never rfl (jRng1 (by rfl) z_range (xv 1)) (gN 4 sc__law_numbers.nd)
  (bCons (kSet 5 sc__law_numbers.nd (mF (mL (xMod (xInt1 (by rfl) z_int (xAdd (xAdd (xMul (xv 0) xInt) (xMul (xv 4) xInt)) xInt)) xInt)))) (bCons (kSet 5 sc__law_numbers.nd (mF (mL (xMod (xInt1 (by rfl) z_int (xAdd (xAdd (xAdd (xMul (xv 5) (xv 5)) (xMul (xv 5) xInt)) (xMul (xv 4) xInt)) xInt)) xInt)))) (bOne (kExp (mAppend 3 (mF (mL (xMod (xInt1 (by rfl) z_int (xDiv (xv 5) xInt)) (xv 2)))))))))) (bOne (kRet (mV 3))))))⟩) (fun _ _ _ _ _ _ us hl => match us, hl with | [_, _, _], _ => rfl)
abbrev s__law_train : Stmt := topS 11
abbrev N__law_train : List Str := ["cell", "count", "draws", "rest", "found", "k", "wagon"]
theorem sc__law_train : FnScope N__law_train ["cell", "count"] (defScope s__law_train) := ⟨rfl, rfl, rfl, by decide +kernel, rfl, by decide +kernel, by decide +kernel⟩
-- slots of _law_train: 0=cell 1=count 2=draws 3=rest 4=found 5=k 6=wagon own: found rest
def b__law_train_1 : En → Option Res :=
  (sSeq (sSet 6 (frzM (xMut isL muPopAt 3 (maConsF (liftM (x2 gMod (x2 gIx (xNm 2) (xNm 5)) (xL gLen (aCons (xNm 3) aNil)))) maNilF)))) (sSeq (sIf (liftT (tV (x2 gEq (x2 gMod (x2 gIx (xNm 2) (x2 gAdd (xNm 1) (xNm 5))) (xC (.int 16))) (xC (.int 0)))))
  (sSet 6 (frzM (liftM (x2 gMul (xNm 6) (x2 gPow (xC (.int 10)) (xC (.int 20)))))))
  (sIf (liftT (tV (x2 gLt (x2 gMod (x2 gIx (xNm 2) (x2 gAdd (xNm 1) (xNm 5))) (xC (.int 16))) (xC (.int 4)))))
  (sSet 6 (frzM (liftM (x2 gSub (xC (.int 0)) (xNm 6)))))
  sNx)) (sExp (xMut isL muAppend 4 (maConsF (frzM (liftM (xNm 6))) maNilF)))))
def b__law_train : En → Option Res :=
  (sSeq (sSet 2 (frzM (liftM (xL (gCall fn__law_numbers) (aCons (xNm 0) (aCons (x2 gMul (xC (.int 2)) (xNm 1)) (aCons (xC (.int 20160)) aNil))))))) (sSeq (sSet 3 (liftM (xLRng (aCons (xC (.int 1)) (aCons (x2 gAdd (xNm 1) (xC (.int 1))) aNil))))) (sSeq (sSet 4 (liftM (xL gLst aNil))) (sSeq (sFor (itV (aCons (xNm 1) aNil) gRng1) (uN 5) b__law_train_1) (sRet (movM 4))))))
def fn__law_train : Fun1 := fnP 7 2 b__law_train
theorem ok__law_train {P : Program} {w : World} {K : PySem.W.Frag} {mg : Str → Option Value} {base : Heap} (W : Got K mg "_law_train" s__law_train) (z_len : mg "len" = none) (z_list : mg "list" = none) (z_range : mg "range" = none) (ok__law_numbers : FnX P w K mg base "_law_numbers" 1 fn__law_numbers) : FnX P w K mg base "_law_train" 2 fn__law_train :=
  fnX_pure (k := 1) (N := N__law_train) (ps := ["cell", "count"]) (f := b__law_train) W sc__law_train (fun fa cdv A outer s H E hr => ⟨_, (bCons (kSet 2 sc__law_train.nd (mF (mL (xCal ok__law_numbers hr (by rfl) (ax_cons (xv 0) (ax_cons (xMul xInt (xv 1)) (ax_cons xInt ax_nil))))))) (bCons (kSet 3 sc__law_train.nd (mL (xListRg2 rfl (by rfl) z_list (by rfl) z_range xInt (xAdd (xv 1) xInt)))) (bCons (kSet 4 sc__law_train.nd (mL (xLst ax_nil))) (bCons (kForV (f := b__law_train_1) PassesOwn.never rfl (jRng1 (by rfl) z_range (xv 1)) (gN 5 sc__law_train.nd)
  (bCons (kSet 6 sc__law_train.nd (mF (mPopAt 3 (mL (xMod (xIx hr (xv 2) (xv 5)) (xLen (by rfl) z_len (xv 3))))))) (bCons (kIf (mT (tEqX hr (xMod (xIx hr (xv 2) (xAdd (xv 1) (xv 5))) xInt) xInt))
  (bOne (kSet 6 sc__law_train.nd (mF (mL (xMul (xv 6) (xPow xInt xInt))))))
  (bOne (kIf (mT (tLtX (xMod (xIx hr (xv 2) (xAdd (xv 1) (xv 5))) xInt) xInt))
  (bOne (kSet 6 sc__law_train.nd (mF (mL (xSub xInt (xv 6))))))
  bNil))) (bOne (kExp (mAppend 4 (mF (mL (xv 6))))))))) (bOne (kRet (mV 4)))))))⟩) (fun _ _ _ _ _ _ us hl => match us, hl with | [_, _], _ => rfl)
abbrev s__law_shuffled : Stmt := topS 12
abbrev N__law_shuffled : List Str := ["things", "cell", "draws", "rest", "found", "k"]
theorem sc__law_shuffled : FnScope N__law_shuffled ["things", "cell"] (defScope s__law_shuffled) := ⟨rfl, rfl, rfl, by decide +kernel, rfl, by decide +kernel, by decide +kernel⟩
-- slots of _law_shuffled: 0=things 1=cell 2=draws 3=rest 4=found 5=k own: found rest
def b__law_shuffled_1 : En → Option Res :=
  (sExp (xMut isL muAppend 4 (maConsF (frzM (xMut isL muPopAt 3 (maConsF (liftM (x2 gMod (x2 gIx (xNm 2) (xNm 5)) (xL gLen (aCons (xNm 3) aNil)))) maNilF))) maNilF)))
def b__law_shuffled : En → Option Res :=
  (sSeq (sSet 2 (frzM (liftM (xL (gCall fn__law_numbers) (aCons (xNm 1) (aCons (xL gLen (aCons (xNm 0) aNil)) (aCons (xC (.int 20160)) aNil))))))) (sSeq (sSet 3 (liftM (xL gList (aCons (xNm 0) aNil)))) (sSeq (sSet 4 (liftM (xL gLst aNil))) (sSeq (sFor (itV (aCons (xL gLen (aCons (xNm 0) aNil)) aNil) gRng1) (uN 5) b__law_shuffled_1) (sRet (movM 4))))))
def fn__law_shuffled : Fun1 := fnP 6 2 b__law_shuffled
theorem ok__law_shuffled {P : Program} {w : World} {K : PySem.W.Frag} {mg : Str → Option Value} {base : Heap} (W : Got K mg "_law_shuffled" s__law_shuffled) (z_len : mg "len" = none) (z_list : mg "list" = none) (z_range : mg "range" = none) (ok__law_numbers : FnX P w K mg base "_law_numbers" 1 fn__law_numbers) : FnX P w K mg base "_law_shuffled" 2 fn__law_shuffled :=
  fnX_pure (k := 1) (N := N__law_shuffled) (ps := ["things", "cell"]) (f := b__law_shuffled) W sc__law_shuffled (fun fa cdv A outer s H E hr => ⟨_, (bCons (kSet 2 sc__law_shuffled.nd (mF (mL (xCal ok__law_numbers hr (by rfl) (ax_cons (xv 1) (ax_cons (xLen (by rfl) z_len (xv 0)) (ax_cons xInt ax_nil))))))) (bCons (kSet 3 sc__law_shuffled.nd (mL (xList (by rfl) z_list (xv 0)))) (bCons (kSet 4 sc__law_shuffled.nd (mL (xLst ax_nil))) (bCons (kForV (f := b__law_shuffled_1) PassesOwn.never rfl (jRng1 (by rfl) z_range (xLen (by rfl) z_len (xv 0))) (gN 5 sc__law_shuffled.nd)
  (bOne (kExp (mAppend 4 (mF (mPopAt 3 (mL (xMod (xIx hr (xv 2) (xv 5)) (xLen (by rfl) z_len (xv 3)))))))))) (bOne (kRet (mV 4)))))))⟩) (fun _ _ _ _ _ _ us hl => match us, hl with | [_, _], _ => rfl)
abbrev s__law_heads : Stmt := topS 13
abbrev N__law_heads : List Str := ["arriving", "departing", "places", "wagon", "k"]
theorem sc__law_heads : FnScope N__law_heads ["arriving", "departing"] (defScope s__law_heads) := ⟨rfl, rfl, rfl, by decide +kernel, rfl, by decide +kernel, by decide +kernel⟩
-- slots of _law_heads: 0=arriving 1=departing 2=places 3=wagon 4=k own: 
def b__law_heads : En → Option Res :=
  (sSeq (sSet 2 (frzM (liftM (xLc (xJ (a1 (xNm 1)) gSeq) (uN 3) tYesF (xIndex (xNm 0) (xNm 3)) [3])))) (sRet (liftM (xLc (xJ (aCons (xC (.int 1)) (aCons (xL gLen (aCons (xNm 1) aNil)) aNil)) gRng2) (uN 4) (tV (x2 gLt (x2 gIx (xNm 2) (xNm 4)) (x2 gIx (xNm 2) (x2 gSub (xNm 4) (xC (.int 1)))))) (x2 gIx (xNm 1) (xNm 4)) [4]))))
def fn__law_heads : Fun1 := fnP 5 2 b__law_heads
theorem ok__law_heads {P : Program} {w : World} {K : PySem.W.Frag} {mg : Str → Option Value} {base : Heap} (W : Got K mg "_law_heads" s__law_heads) (z_len : mg "len" = none) (z_range : mg "range" = none) : FnX P w K mg base "_law_heads" 1 fn__law_heads :=
  fnX_pure (k := 0) (N := N__law_heads) (ps := ["arriving", "departing"]) (f := b__law_heads) W sc__law_heads (fun fa cdv A outer s H E hr => ⟨_, (bCons (kSet 2 sc__law_heads.nd (mF (mL (xComp (own := [("wagon", 3)]) (g := (gName 3)) (tt := tYes) (te := (tBM K "list" (rIndexD K) (tVar 0) (tCons (tVar 3) tNil))) rfl sc__law_heads.nd (jSeq (xv 1)) (blkOk_by (own := [("wagon", 3)]) (N := N__law_heads) (sc := defScope s__law_heads) (by decide +kernel)) (fun _ _ _ _ _ => (gN 3 sc__law_heads.nd)) (fun _ _ _ _ _ => tsNil) (fun _ _ _ _ _ => (xIdxR hr (xv 0) (xv 3))) (by decide))))) (bOne (kRet (mL (xComp (own := [("k", 4)]) (g := (gName 4)) (tt := (tTest (tOp qLt (tOp (rIxX K) (tVar 2) (tVar 4)) (tOp (rIxX K) (tVar 2) (tOp qSub (tVar 4) (tC (.int 1))))))) (te := (tOp (rIxX K) (tVar 1) (tVar 4))) rfl sc__law_heads.nd (jRng2 (by rfl) z_range xInt (xLen (by rfl) z_len (xv 1))) (blkOk_by (own := [("k", 4)]) (N := N__law_heads) (sc := defScope s__law_heads) (by decide +kernel)) (fun _ _ _ _ _ => (gN 4 sc__law_heads.nd)) (fun _ _ _ _ _ => (tsOne (tLtX (xIx hr (xv 2) (xv 4)) (xIx hr (xv 2) (xSub (xv 4) xInt))))) (fun _ _ _ _ _ => (xIx hr (xv 1) (xv 4))) (by decide))))))⟩) (fun _ _ _ _ _ _ us hl => match us, hl with | [_, _], _ => rfl)
abbrev s__law_after : Stmt := topS 14
abbrev N__law_after : List Str := ["train", "tracks", "pairs", "k", "track", "place"]
theorem sc__law_after : FnScope N__law_after ["train", "tracks"] (defScope s__law_after) := ⟨rfl, rfl, rfl, by decide +kernel, rfl, by decide +kernel, by decide +kernel⟩
-- slots of _law_after: 0=train 1=tracks 2=pairs 3=k 4=track 5=place own: 
def b__law_after : En → Option Res :=
  (sSeq (sSet 2 (frzM (liftM (xL gSorted (aCons (xLc (xJ (aCons (xL gLen (aCons (xNm 0) aNil)) aNil) gRng1) (uN 3) tYesF (xL Tw.gTup (aCons (x2 gIx (xNm 1) (xNm 3)) (aCons (xNm 3) aNil))) [3]) aNil))))) (sRet (liftM (xLc (xJ (a1 (xNm 2)) gSeq) (uT 2 (uCons (uN 4) (uCons (uN 5) uNil))) tYesF (x2 gIx (xNm 0) (xNm 5)) [4, 5]))))
def fn__law_after : Fun1 := fnP 6 2 b__law_after
theorem ok__law_after {P : Program} {w : World} {K : PySem.W.Frag} {mg : Str → Option Value} {base : Heap} (W : Got K mg "_law_after" s__law_after) (z_len : mg "len" = none) (z_range : mg "range" = none) (z_sorted : mg "sorted" = none) : FnX P w K mg base "_law_after" 1 fn__law_after :=
  fnX_pure (k := 0) (N := N__law_after) (ps := ["train", "tracks"]) (f := b__law_after) W sc__law_after (fun fa cdv A outer s H E hr => ⟨_, (bCons (kSet 2 sc__law_after.nd (mF (mL (xSorted hr (by rfl) z_sorted (xComp (own := [("k", 3)]) (g := (gName 3)) (tt := tYes) (te := (tTup (tCons (tOp (rIxX K) (tVar 1) (tVar 3)) (tCons (tVar 3) tNil)))) rfl sc__law_after.nd (jRng1 (by rfl) z_range (xLen (by rfl) z_len (xv 0))) (blkOk_by (own := [("k", 3)]) (N := N__law_after) (sc := defScope s__law_after) (by decide +kernel)) (fun _ _ _ _ _ => (gN 3 sc__law_after.nd)) (fun _ _ _ _ _ => tsNil) (fun _ _ _ _ _ => (xTup (ax_cons (xIx hr (xv 1) (xv 3)) (ax_cons (xv 3) ax_nil)))) (by decide)))))) (bOne (kRet (mL (xComp (own := [("track", 4), ("place", 5)]) (g := (L2.gTup K 2 (gCons (gName 4) (gCons (gName 5) gNil)))) (tt := tYes) (te := (tOp (rIxX K) (tVar 0) (tVar 5))) rfl sc__law_after.nd (jSeq (xv 2)) (blkOk_by (own := [("track", 4), ("place", 5)]) (N := N__law_after) (sc := defScope s__law_after) (by decide +kernel)) (fun _ _ _ _ _ => (gT rfl (gsCons (gN 4 sc__law_after.nd) (gsCons (gN 5 sc__law_after.nd) gsNil)))) (fun _ _ _ _ _ => tsNil) (fun _ _ _ _ _ => (xIx hr (xv 0) (xv 5))) (by decide))))))⟩) (fun _ _ _ _ _ _ us hl => match us, hl with | [_, _], _ => rfl)
abbrev s__law_departing : Stmt := topS 15
abbrev N__law_departing : List Str := ["arriving", "cell", "picks", "count", "draws", "many", "found", "track", "k"]
theorem sc__law_departing : FnScope N__law_departing ["arriving", "cell", "picks"] (defScope s__law_departing) := ⟨rfl, rfl, rfl, by decide +kernel, rfl, by decide +kernel, by decide +kernel⟩
-- slots of _law_departing: 0=arriving 1=cell 2=picks 3=count 4=draws 5=many 6=found 7=track 8=k own: found
def b__law_departing_1 : En → Option Res :=
  (sSet 6 (liftM (x2 gAdd (xNm 6) (xLc (xJ (aCons (xNm 3) aNil) gRng1) (uN 8) (tV (x2 gEq (x2 gMod (x2 gIx (xNm 4) (xNm 8)) (xNm 5)) (xNm 7))) (x2 gIx (xNm 0) (xNm 8)) [8]))))
def b__law_departing : En → Option Res :=
  (sSeq (sSet 3 (frzM (liftM (xL gLen (aCons (xNm 0) aNil))))) (sSeq (sIf (liftT (tV (x2 gEq (x2 gMod (x2 gIx (xNm 2) (xC (.int 0))) (xC (.int 3))) (xC (.int 0)))))
  (sRet (liftM (xL (gCall fn__law_shuffled) (aCons (xNm 0) (aCons (xNm 1) aNil)))))
  sNx) (sSeq (sIf (liftT (tV (x2 gEq (x2 gMod (x2 gIx (xNm 2) (xC (.int 0))) (xC (.int 9))) (xC (.int 1)))))
  (sRet (liftM (xLc (xJ (aCons (xNm 3) aNil) gRng1) (uN 8) tYesF (x2 gIx (xNm 0) (x2 gSub (x2 gSub (xNm 3) (xC (.int 1))) (xNm 8))) [8])))
  sNx) (sSeq (sSet 4 (frzM (liftM (xL (gCall fn__law_numbers) (aCons (xNm 1) (aCons (xNm 3) (aCons (xC (.int 20160)) aNil))))))) (sSeq (sSet 5 (frzM (liftM (x2 gAdd (xC (.int 1)) (x2 gMod (x2 gIx (xNm 2) (xC (.int 1))) (xC (.int 9))))))) (sSeq (sSet 6 (liftM (xL gLst aNil))) (sSeq (sFor (itV (aCons (xNm 5) aNil) gRng1) (uN 7) b__law_departing_1) (sRet (movM 6)))))))))
def fn__law_departing : Fun1 := fnP 9 3 b__law_departing
theorem ok__law_departing {P : Program} {w : World} {K : PySem.W.Frag} {mg : Str → Option Value} {base : Heap} (W : Got K mg "_law_departing" s__law_departing) (z_len : mg "len" = none) (z_range : mg "range" = none) (ok__law_shuffled : FnX P w K mg base "_law_shuffled" 2 fn__law_shuffled) (ok__law_numbers : FnX P w K mg base "_law_numbers" 1 fn__law_numbers) : FnX P w K mg base "_law_departing" 3 fn__law_departing :=
  fnX_pure (k := 2) (N := N__law_departing) (ps := ["arriving", "cell", "picks"]) (f := b__law_departing) W sc__law_departing (fun fa cdv A outer s H E hr => ⟨_, (bCons (kSet 3 sc__law_departing.nd (mF (mL (xLen (by rfl) z_len (xv 0))))) (bCons (kIf (mT (tEqX hr (xMod (xIx hr (xv 2) xInt) xInt) xInt))
  (bOne (kRet (mL (xCal ok__law_shuffled hr (by rfl) (ax_cons (xv 0) (ax_cons (xv 1) ax_nil))))))
  bNil) (bCons (kIf (mT (tEqX hr (xMod (xIx hr (xv 2) xInt) xInt) xInt))
  (bOne (kRet (mL (xComp (own := [("k", 8)]) (g := (gName 8)) (tt := tYes) (te := (tOp (rIxX K) (tVar 0) (tOp qSub (tOp qSub (tVar 3) (tC (.int 1))) (tVar 8)))) rfl sc__law_departing.nd (jRng1 (by rfl) z_range (xv 3)) (blkOk_by (own := [("k", 8)]) (N := N__law_departing) (sc := defScope s__law_departing) (by decide +kernel)) (fun _ _ _ _ _ => (gN 8 sc__law_departing.nd)) (fun _ _ _ _ _ => tsNil) (fun _ _ _ _ _ => (xIx hr (xv 0) (xSub (xSub (xv 3) xInt) (xv 8)))) (by decide)))))
  bNil) (bCons (kSet 4 sc__law_departing.nd (mF (mL (xCal ok__law_numbers hr (by rfl) (ax_cons (xv 1) (ax_cons (xv 3) (ax_cons xInt ax_nil))))))) (bCons (kSet 5 sc__law_departing.nd (mF (mL (xAdd xInt (xMod (xIx hr (xv 2) xInt) xInt))))) (bCons (kSet 6 sc__law_departing.nd (mL (xLst ax_nil))) (bCons (kForV (f := b__law_departing_1) PassesOwn.never rfl (jRng1 (by rfl) z_range (xv 5)) (gN 7 sc__law_departing.nd)
  (bOne (kSet 6 sc__law_departing.nd (mL (xAdd (xv 6) (xComp (own := [("k", 8)]) (g := (gName 8)) (tt := (tTest (tOp (rEqX K) (tOp qMod (tOp (rIxX K) (tVar 4) (tVar 8)) (tVar 5)) (tVar 7)))) (te := (tOp (rIxX K) (tVar 0) (tVar 8))) rfl sc__law_departing.nd (jRng1 (by rfl) z_range (xv 3)) (blkOk_by (own := [("k", 8)]) (N := N__law_departing) (sc := defScope s__law_departing) (by decide +kernel)) (fun _ _ _ _ _ => (gN 8 sc__law_departing.nd)) (fun _ _ _ _ _ => (tsOne (tEqX hr (xMod (xIx hr (xv 4) (xv 8)) (xv 5)) (xv 7)))) (fun _ _ _ _ _ => (xIx hr (xv 0) (xv 8))) (by decide))))))) (bOne (kRet (mV 6))))))))))⟩) (fun _ _ _ _ _ _ us hl => match us, hl with | [_, _, _], _ => rfl)
abbrev s__law_enough : Stmt := topS 16
abbrev N__law_enough : List Str := ["count", "k", "passes", "power_v", "turn"]
theorem sc__law_enough : FnScope N__law_enough ["count", "k", "passes"] (defScope s__law_enough) := ⟨rfl, rfl, rfl, by decide +kernel, rfl, by decide +kernel, by decide +kernel⟩
-- slots of _law_enough: 0=count 1=k 2=passes 3=power_v 4=turn own: 
def b__law_enough_1 : En → Option Res :=
  (sSet 3 (frzM (liftM (x2 gMul (xNm 3) (xNm 1)))))
def b__law_enough : En → Option Res :=
  (sSeq (sSet 3 (frzM (liftM (xC (.int 1))))) (sSeq (sFor (itV (aCons (xNm 2) aNil) gRng1) (uN 4) b__law_enough_1) (sRet (liftM (x2 gGt (xNm 3) (xNm 0))))))
def fn__law_enough : Fun1 := fnP 5 3 b__law_enough
theorem ok__law_enough {P : Program} {w : World} {K : PySem.W.Frag} {mg : Str → Option Value} {base : Heap} (W : Got K mg "_law_enough" s__law_enough) (z_range : mg "range" = none) : FnX P w K mg base "_law_enough" 1 fn__law_enough :=
  fnX_pure (k := 0) (N := N__law_enough) (ps := ["count", "k", "passes"]) (f := b__law_enough) W sc__law_enough (fun fa cdv A outer s H E hr => ⟨_, (bCons (kSet 3 sc__law_enough.nd (mF (mL xInt))) (bCons (kForV (f := b__law_enough_1) PassesOwn.never rfl (jRng1 (by rfl) z_range (xv 2)) (gN 4 sc__law_enough.nd)
  (bOne (kSet 3 sc__law_enough.nd (mF (mL (xMul (xv 3) (xv 1))))))) (bOne (kRet (mL (xGt (xv 3) (xv 0)))))))⟩) (fun _ _ _ _ _ _ us hl => match us, hl with | [_, _, _], _ => rfl)
abbrev s__law_lists : Stmt := topS 17
abbrev N__law_lists : List Str := ["arriving", "departing", "k", "passes", "heads", "numbers", "number", "wagon", "train", "found", "turn"]
theorem sc__law_lists : FnScope N__law_lists ["arriving", "departing", "k", "passes"] (defScope s__law_lists) := ⟨rfl, rfl, rfl, by decide +kernel, rfl, by decide +kernel, by decide +kernel⟩
-- slots of _law_lists: 0=arriving 1=departing 2=k 3=passes 4=heads 5=numbers 6=number 7=wagon 8=train 9=found 10=turn own: found numbers
def b__law_lists_1 : En → Option Res :=
  (sSeq (sIf (liftT (tV (x2 (gIn false) (xNm 7) (xNm 4))))
  (sSet 6 (frzM (liftM (x2 gAdd (xNm 6) (xC (.int 1))))))
  sNx) (sPut muPutD (plV 5) (xNm 7) (frzM (liftM (xNm 6)))))
def b__law_lists_2 : En → Option Res :=
  (sPut muPutD (plV 5) (xNm 7) (frzM (liftM (x2 gDiv (x2 gIx (xNm 5) (xNm 7)) (xNm 2)))))
def b__law_lists_3 : En → Option Res :=
  (sSeq (sExp (xMut isL muAppend 9 (maConsF (frzM (liftM (xLc (xJ (a1 (xNm 8)) gSeq) (uN 7) tYesF (x2 gMod (x2 gIx (xNm 5) (xNm 7)) (xNm 2)) [7]))) maNilF))) (sSeq (sSet 8 (frzM (liftM (xL (gCall fn__law_after) (aCons (xNm 8) (aCons (x2 gIx (xNm 9) (xNm 10)) aNil)))))) (sFor (itR (a1 (xNm 1)) gSeq) (uN 7) b__law_lists_2)))
def b__law_lists : En → Option Res :=
  (sSeq (sSet 4 (frzM (liftM (xL (gCall fn__law_heads) (aCons (xNm 0) (aCons (xNm 1) aNil)))))) (sSeq (sSet 5 (liftM xNewD)) (sSeq (sSet 6 (frzM (liftM (xC (.int 0))))) (sSeq (sFor (itR (a1 (xNm 1)) gSeq) (uN 7) b__law_lists_1) (sSeq (sSet 8 (frzM (liftM (xL gList (aCons (xNm 0) aNil))))) (sSeq (sSet 9 (liftM (xL gLst aNil))) (sSeq (sFor (itV (aCons (xNm 3) aNil) gRng1) (uN 10) b__law_lists_3) (sRet (movM 9)))))))))
def fn__law_lists : Fun1 := fnP 11 4 b__law_lists
theorem ok__law_lists {P : Program} {w : World} {K : PySem.W.Frag} {mg : Str → Option Value} {base : Heap} (W : Got K mg "_law_lists" s__law_lists) (z_list : mg "list" = none) (z_range : mg "range" = none) (ok__law_heads : FnX P w K mg base "_law_heads" 1 fn__law_heads) (ok__law_after : FnX P w K mg base "_law_after" 1 fn__law_after) : FnX P w K mg base "_law_lists" 2 fn__law_lists :=
  fnX_pure (k := 1) (N := N__law_lists) (ps := ["arriving", "departing", "k", "passes"]) (f := b__law_lists) W sc__law_lists (fun fa cdv A outer s H E hr => ⟨_, (bCons (kSet 4 sc__law_lists.nd (mF (mL (xCal ok__law_heads hr (by rfl) (ax_cons (xv 0) (ax_cons (xv 1) ax_nil)))))) (bCons (kSet 5 sc__law_lists.nd (mL xDic)) (bCons (kSet 6 sc__law_lists.nd (mF (mL xInt))) (bCons (kForR (f := b__law_lists_1) PassesOwn.never rfl (jSeq (xv 1)) (gN 7 sc__law_lists.nd)
  (bCons (kIf (mT (tInX hr (xv 7) (xv 4)))
  (bOne (kSet 6 sc__law_lists.nd (mF (mL (xAdd (xv 6) xInt)))))
  bNil) (bOne (kPutD hr (mF (mL (xv 6))) (qV 5) (xv 7))))) (bCons (kSet 8 sc__law_lists.nd (mF (mL (xList (by rfl) z_list (xv 0))))) (bCons (kSet 9 sc__law_lists.nd (mL (xLst ax_nil))) (bCons (kForV (f := b__law_lists_3) PassesOwn.never rfl (jRng1 (by rfl) z_range (xv 3)) (gN 10 sc__law_lists.nd)
  (bCons (kExp (mAppend 9 (mF (mL (xComp (own := [("wagon", 7)]) (g := (gName 7)) (tt := tYes) (te := (tOp qMod (tOp (rIxX K) (tVar 5) (tVar 7)) (tVar 2))) rfl sc__law_lists.nd (jSeq (xv 8)) (blkOk_by (own := [("wagon", 7)]) (N := N__law_lists) (sc := defScope s__law_lists) (by decide +kernel)) (fun _ _ _ _ _ => (gN 7 sc__law_lists.nd)) (fun _ _ _ _ _ => tsNil) (fun _ _ _ _ _ => (xMod (xIx hr (xv 5) (xv 7)) (xv 2))) (by decide)))))) (bCons (kSet 8 sc__law_lists.nd (mF (mL (xCal ok__law_after hr (by rfl) (ax_cons (xv 8) (ax_cons (xIx hr (xv 9) (xv 10)) ax_nil)))))) (bOne (kForR (f := b__law_lists_2) PassesOwn.never rfl (jSeq (xv 1)) (gN 7 sc__law_lists.nd)
  (bOne (kPutD hr (mF (mL (xDiv (xIx hr (xv 5) (xv 7)) (xv 2)))) (qV 5) (xv 7)))))))) (bOne (kRet (mV 9))))))))))⟩) (fun _ _ _ _ _ _ us hl => match us, hl with | [_, _, _, _], _ => rfl)
abbrev s__law_same : Stmt := topS 18
abbrev N__law_same : List Str := ["told", "due", "k"]
theorem sc__law_same : FnScope N__law_same ["told", "due"] (defScope s__law_same) := ⟨rfl, rfl, rfl, by decide +kernel, rfl, by decide +kernel, by decide +kernel⟩
-- slots of _law_same: 0=told 1=due 2=k own: 
def b__law_same_1 (rec : Fun1) : En → Option Res :=
  (sIf (liftT (tNotF (tV (xL (gCall rec) (aCons (x2 gIx (xNm 0) (xNm 2)) (aCons (x2 gIx (xNm 1) (xNm 2)) aNil))))))
  (sRet (liftM (xC (.bool false))))
  sNx)
def b__law_same (rec : Fun1) : En → Option Res :=
  (sSeq (sIf (liftT (tV (xIs .list (xNm 1))))
  (sIf (liftT (tOrF (tNotF (tV (xIs .list (xNm 0)))) (tV (x2 gNe (xL gLen (aCons (xNm 0) aNil)) (xL gLen (aCons (xNm 1) aNil))))))
  (sRet (liftM (xC (.bool false))))
  sNx)
  (sIf (liftT (tV (xIs .tup (xNm 1))))
  (sIf (liftT (tOrF (tNotF (tV (xIs .tup (xNm 0)))) (tV (x2 gNe (xL gLen (aCons (xNm 0) aNil)) (xL gLen (aCons (xNm 1) aNil))))))
  (sRet (liftM (xC (.bool false))))
  sNx)
  (sIf (liftT (tV (xIsN false (xNm 1))))
  (sRet (liftM (xIsN false (xNm 0))))
  (sIf (liftT (tV (xIs .bool (xNm 1))))
  (sRet (liftM (xAndF (xIs .bool (xNm 0)) (x2 gEq (xNm 0) (xNm 1)))))
  (sIf (liftT (tV (xIs .int (xNm 1))))
  (sRet (liftM (xAndF (xIs .int (xNm 0)) (xAndF (xNotF (xIs .bool (xNm 0))) (x2 gEq (xNm 0) (xNm 1))))))
  (sRet (liftM (xAndF (xIs .str (xNm 0)) (x2 gEq (xNm 0) (xNm 1)))))))))) (sSeq (sFor (itV (aCons (xL gLen (aCons (xNm 1) aNil)) aNil) gRng1) (uN 2) (b__law_same_1 rec)) (sRet (liftM (xC (.bool true))))))
def fn__law_same : Nat → Fun1
  | 0 => fun _ => none
  | n + 1 => fnP 3 2 (b__law_same (fn__law_same n))
theorem ok__law_same {P : Program} {w : World} {K : PySem.W.Frag} {mg : Str → Option Value} {base : Heap} (W : Got K mg "_law_same" s__law_same) (z_bool : mg "bool" = none) (z_int : mg "int" = none) (z_isinstance : mg "isinstance" = none) (z_len : mg "len" = none) (z_list : mg "list" = none) (z_range : mg "range" = none) (z_str : mg "str" = none) (z_tuple : mg "tuple" = none) : ∀ n, FnX P w K mg base "_law_same" (n + 1) (fn__law_same n)
  | 0 => fnX_never (k := 0) W sc__law_same (fun _ _ _ _ _ _ us hl => match us, hl with | [_, _], _ => rfl)
  | n + 1 => by
    have okr : FnX P w K mg base "_law_same" (n + 1) (fn__law_same n) := ok__law_same W z_bool z_int z_isinstance z_len z_list z_range z_str z_tuple   n
    have := fnX_pure (P := P) (w := w) (base := base) (k := n + 1) (N := N__law_same) (ps := ["told", "due"]) (f := b__law_same (fn__law_same n)) W sc__law_same (fun fa cdv A outer s H E hr => ⟨_, (bCons (kIf (mT (tVal (xIsi .list (by rfl) z_isinstance (by rfl) z_list (by decide +kernel) (xv 1))))
  (bOne (kIf (mT (tW (wOr (tNotX (tVal (xIsi .list (by rfl) z_isinstance (by rfl) z_list (by decide +kernel) (xv 0)))) (wOr1 (tNeX hr (xLen (by rfl) z_len (xv 0)) (xLen (by rfl) z_len (xv 1)))))))
  (bOne (kRet (mL xBl)))
  bNil))
  (bOne (kIf (mT (tVal (xIsi .tup (by rfl) z_isinstance (by rfl) z_tuple (by decide +kernel) (xv 1))))
  (bOne (kIf (mT (tW (wOr (tNotX (tVal (xIsi .tup (by rfl) z_isinstance (by rfl) z_tuple (by decide +kernel) (xv 0)))) (wOr1 (tNeX hr (xLen (by rfl) z_len (xv 0)) (xLen (by rfl) z_len (xv 1)))))))
  (bOne (kRet (mL xBl)))
  bNil))
  (bOne (kIf (mT (tIsX (xv 1)))
  (bOne (kRet (mL (xIs0 (xv 0)))))
  (bOne (kIf (mT (tVal (xIsi .bool (by rfl) z_isinstance (by rfl) z_bool (by decide +kernel) (xv 1))))
  (bOne (kRet (mL (xAnd (xIsi .bool (by rfl) z_isinstance (by rfl) z_bool (by decide +kernel) (xv 0)) (xOne (xEq hr (xv 0) (xv 1)))))))
  (bOne (kIf (mT (tVal (xIsi .int (by rfl) z_isinstance (by rfl) z_int (by decide +kernel) (xv 1))))
  (bOne (kRet (mL (xAnd (xIsi .int (by rfl) z_isinstance (by rfl) z_int (by decide +kernel) (xv 0)) (xAnd (xNot (xIsi .bool (by rfl) z_isinstance (by rfl) z_bool (by decide +kernel) (xv 0))) (xOne (xEq hr (xv 0) (xv 1))))))))
  (bOne (kRet (mL (xAnd (xIsi .str (by rfl) z_isinstance (by rfl) z_str (by decide +kernel) (xv 0)) (xOne (xEq hr (xv 0) (xv 1)))))))))))))))) (bCons (kForV (f := (b__law_same_1 (fn__law_same n))) PassesOwn.never rfl (jRng1 (by rfl) z_range (xLen (by rfl) z_len (xv 1))) (gN 2 sc__law_same.nd)
  (bOne (kIf (mT (tNotX (tVal (xCal okr hr (by rfl) (ax_cons (xIx hr (xv 0) (xv 2)) (ax_cons (xIx hr (xv 1) (xv 2)) ax_nil))))))
  (bOne (kRet (mL xBl)))
  bNil))) (bOne (kRet (mL xBl)))))⟩) (fun _ _ _ _ _ _ us hl => match us, hl with | [_, _], _ => rfl)
    have e : n + 1 + 1 = n + 1 + 1 := by omega
    rw [e]; exact this
abbrev s_law : Stmt := topS 19
abbrev N_law : List Str := ["script", "shape", "count", "arriving", "departing", "passed", "heads", "tracks", "turn", "k", "told", "train", "least", "passes", "draw", "due", "track"]
theorem sc_law : FnScope N_law ["script"] (defScope s_law) := ⟨rfl, rfl, rfl, by decide +kernel, rfl, by decide +kernel, by decide +kernel⟩
-- slots of law: 0=script 1=shape 2=count 3=arriving 4=departing 5=passed 6=heads 7=tracks 8=turn 9=k 10=told 11=train 12=least 13=passes 14=draw 15=due 16=track own: told train
def b_law_1 : En → Option Res :=
  (sSeq (sSet 10 (liftM (xL (gCall fn_run_heads) (aCons (x2 gIx (xNm 5) (xC (.int 0))) (aCons (x2 gIx (xNm 5) (xC (.int 1))) aNil))))) (sSeq (sSet 11 (liftM (xL (gCall fn_after_pass) (aCons (x2 gIx (xNm 5) (xC (.int 0))) (aCons (xF (xL gList (aCons (xNm 7) aNil))) aNil))))) (sSeq (sIf (liftT (tOrF (tNotF (tV (xL (gCall (fn__law_same 8)) (aCons (xNm 10) (aCons (xNm 6) aNil))))) (tNotF (tV (xL (gCall (fn__law_same 8)) (aCons (xNm 11) (aCons (xF (xL (gCall fn__law_after) (aCons (xNm 3) (aCons (xNm 7) aNil)))) aNil)))))))
  (sRet (liftM (xC (.bool false))))
  sNx) (sSeq (sExp (xMut isL muAppend 10 (maConsF (frzM (liftM (xC (.int 0)))) maNilF))) (sExp (xMut isL muAppend 11 (maConsF (frzM (liftM (xC (.int 0)))) maNilF)))))))
def b_law_2 : En → Option Res :=
  (sIf (liftT (tNotF (tV (xL (gCall fn__law_enough) (aCons (xL gLen (aCons (xNm 6) aNil)) (aCons (xNm 9) (aCons (xNm 13) aNil)))))))
  (sSet 12 (frzM (liftM (x2 gAdd (xNm 13) (xC (.int 1))))))
  sNx)
def b_law_3 : En → Option Res :=
  (sSeq (sSet 10 (liftM (xL (gCall fn_in_passes) (aCons (x2 gIx (xNm 5) (xC (.int 0))) (aCons (x2 gIx (xNm 5) (xC (.int 1))) (aCons (xNm 9) (aCons (xNm 13) aNil))))))) (sSeq (sIf (liftT (tNotF (tV (xL (gCall (fn__law_same 8)) (aCons (xNm 10) (aCons (xNm 15) aNil))))))
  (sRet (liftM (xC (.bool false))))
  sNx) (sExp (xMutP isL muAppend (plI (plV 10) (xC (.int 1))) (aCons (xF (xC (.int 0))) aNil)))))
def b_law_4 : En → Option Res :=
  (sSeq (sSet 15 (frzM (liftM (xL Tw.gTup (aCons (xC (.str "runs")) (aCons (xNm 6) aNil)))))) (sSeq (sIf (liftT (tV (x2 gGe (xNm 13) (xNm 12))))
  (sSet 15 (frzM (liftM (xL Tw.gTup (aCons (xC (.str "tracks")) (aCons (xL (gCall fn__law_lists) (aCons (xNm 3) (aCons (xNm 4) (aCons (xNm 9) (aCons (xNm 13) aNil))))) aNil))))))
  sNx) (sFor (itV (aCons (xC (.int 2)) aNil) gRng1) (uN 8) b_law_3)))
def b_law_5 : En → Option Res :=
  (sSeq (sSet 12 (frzM (liftM (xC (.int 0))))) (sSeq (sFor (itV (aCons (xC (.int 8)) aNil) gRng1) (uN 13) b_law_2) (sSeq (sIf (liftT (tNotF (tV (xL (gCall (fn__law_same 8)) (aCons (xF (xL (gCall fn_least_passes) (aCons (x2 gIx (xNm 5) (xC (.int 0))) (aCons (x2 gIx (xNm 5) (xC (.int 1))) (aCons (xNm 9) aNil))))) (aCons (xNm 12) aNil))))))
  (sRet (liftM (xC (.bool false))))
  sNx) (sFor (itV (a1 (xF (xL gLst (aCons (xC (.int 0)) (aCons (xC (.int 1)) (aCons (xL gMax2 (aCons (xC (.int 0)) (aCons (x2 gSub (xNm 12) (xC (.int 1))) aNil))) (aCons (xNm 12) (aCons (x2 gAdd (xNm 12) (xC (.int 1))) (aCons (x2 gMod (x2 gIx (xNm 1) (xC (.int 5))) (xC (.int 21))) aNil))))))))) gSeq) (uN 13) b_law_4))))
def b_law : En → Option Res :=
  (sSeq (sSet 1 (frzM (liftM (xL (gCall fn__law_numbers) (aCons (xF (xL (gCall fn__law_cell) (aCons (xNm 0) (aCons (xC (.int 0)) aNil)))) (aCons (xC (.int 6)) (aCons (xC (.int 20160)) aNil))))))) (sSeq (sSet 2 (frzM (liftM (x2 gMod (x2 gDiv (x2 gIx (xNm 1) (xC (.int 0))) (xC (.int 4))) (xC (.int 13)))))) (sSeq (sIf (liftT (tV (x2 gEq (x2 gMod (x2 gIx (xNm 1) (xC (.int 0))) (xC (.int 4))) (xC (.int 3)))))
  (sSet 2 (frzM (liftM (x2 gMod (x2 gDiv (x2 gIx (xNm 1) (xC (.int 0))) (xC (.int 4))) (xC (.int 101))))))
  sNx) (sSeq (sSet 3 (frzM (liftM (xL (gCall fn__law_train) (aCons (xF (xL (gCall fn__law_cell) (aCons (xNm 0) (aCons (xC (.int 1)) aNil)))) (aCons (xNm 2) aNil)))))) (sSeq (sSet 4 (frzM (liftM (xL (gCall fn__law_departing) (aCons (xNm 3) (aCons (xF (xL (gCall fn__law_cell) (aCons (xNm 0) (aCons (xC (.int 2)) aNil)))) (aCons (xF (xSl (xNm 1) (oSome (xC (.int 1))) (oSome (xC (.int 3))))) aNil))))))) (sSeq (sSet 5 (frzM (liftM (xL Tw.gTup (aCons (xL gList (aCons (xNm 3) aNil)) (aCons (xL gList (aCons (xNm 4) aNil)) aNil)))))) (sSeq (sSet 6 (frzM (liftM (xL (gCall fn__law_heads) (aCons (xNm 3) (aCons (xNm 4) aNil)))))) (sSeq (sSet 7 (frzM (liftM (xLc (xJ (a1 (xF (xL (gCall fn__law_numbers) (aCons (xF (xL (gCall fn__law_cell) (aCons (xNm 0) (aCons (xC (.int 3)) aNil)))) (aCons (xNm 2) (aCons (xC (.int 20160)) aNil)))))) gSeq) (uN 14) tYesF (x2 gMod (xNm 14) (x2 gAdd (xC (.int 2)) (x2 gMod (x2 gIx (xNm 1) (xC (.int 3))) (xC (.int 20))))) [14])))) (sSeq (sIf (liftT (tV (x2 gEq (x2 gMod (x2 gIx (xNm 1) (xC (.int 3))) (xC (.int 4))) (xC (.int 0)))))
  (sSet 7 (frzM (liftM (xLc (xJ (a1 (xNm 7)) gSeq) (uN 16) tYesF (x2 gMul (xNm 16) (x2 gPow (xC (.int 10)) (xC (.int 25)))) [16]))))
  sNx) (sSeq (sFor (itV (aCons (xC (.int 2)) aNil) gRng1) (uN 8) b_law_1) (sSeq (sFor (itV (a1 (xF (xL gLst (aCons (xC (.int 2)) (aCons (x2 gAdd (xC (.int 3)) (x2 gMod (x2 gIx (xNm 1) (xC (.int 4))) (xC (.int 8)))) (aCons (x2 gAdd (x2 gPow (xC (.int 10)) (xC (.int 20))) (x2 gIx (xNm 1) (xC (.int 4)))) aNil)))))) gSeq) (uN 9) b_law_5) (sRet (liftM (x2 gEq (xNm 5) (xL Tw.gTup (aCons (xNm 3) (aCons (xNm 4) aNil)))))))))))))))))
def fn_law : Fun1 := fnP 17 1 b_law
theorem ok_law {P : Program} {w : World} {K : PySem.W.Frag} {mg : Str → Option Value} {base : Heap} {fa : Addr} {fd : FuncData} (FD : FunD K "law" "law" (defArgs s_law) (defBody s_law) (defScope s_law) [] [] fa fd) (z_len : mg "len" = none) (z_list : mg "list" = none) (z_max : mg "max" = none) (z_range : mg "range" = none) (ok__law_cell : FnX P w K mg base "_law_cell" 1 fn__law_cell) (ok__law_numbers : FnX P w K mg base "_law_numbers" 1 fn__law_numbers) (ok__law_train : FnX P w K mg base "_law_train" 2 fn__law_train) (ok__law_departing : FnX P w K mg base "_law_departing" 3 fn__law_departing) (ok__law_heads : FnX P w K mg base "_law_heads" 1 fn__law_heads) (ok_run_heads : FnX P w K mg base "run_heads" 1 fn_run_heads) (ok_after_pass : FnX P w K mg base "after_pass" 1 fn_after_pass) (ok__law_after : FnX P w K mg base "_law_after" 1 fn__law_after) (ok__law_same : FnX P w K mg base "_law_same" 9 (fn__law_same 8)) (ok__law_enough : FnX P w K mg base "_law_enough" 1 fn__law_enough) (ok_least_passes : FnX P w K mg base "least_passes" 2 fn_least_passes) (ok__law_lists : FnX P w K mg base "_law_lists" 2 fn__law_lists) (ok_in_passes : FnX P w K mg base "in_passes" 3 fn_in_passes) : FnOk P w K mg base CX0 10 fa fd ["script"] (Spg K mg fn_law) :=
  fnOk_pure (k := 9) (N := N_law) (ps := ["script"]) (f := b_law) FD sc_law (fun cdv A outer s H E hr => ⟨_, (bCons (kSet 1 sc_law.nd (mF (mL (xCal ok__law_numbers hr (by rfl) (ax_cons (xf (xCal ok__law_cell hr (by rfl) (ax_cons (xv 0) (ax_cons xInt ax_nil)))) (ax_cons xInt (ax_cons xInt ax_nil))))))) (bCons (kSet 2 sc_law.nd (mF (mL (xMod (xDiv (xIx hr (xv 1) xInt) xInt) xInt)))) (bCons (kIf (mT (tEqX hr (xMod (xIx hr (xv 1) xInt) xInt) xInt))
  (bOne (kSet 2 sc_law.nd (mF (mL (xMod (xDiv (xIx hr (xv 1) xInt) xInt) xInt)))))
  bNil) (bCons (kSet 3 sc_law.nd (mF (mL (xCal ok__law_train hr (by rfl) (ax_cons (xf (xCal ok__law_cell hr (by rfl) (ax_cons (xv 0) (ax_cons xInt ax_nil)))) (ax_cons (xv 2) ax_nil)))))) (bCons (kSet 4 sc_law.nd (mF (mL (xCal ok__law_departing hr (by rfl) (ax_cons (xv 3) (ax_cons (xf (xCal ok__law_cell hr (by rfl) (ax_cons (xv 0) (ax_cons xInt ax_nil)))) (ax_cons (xf (xSlc (xv 1) (pox_some xInt) (pox_some xInt))) ax_nil))))))) (bCons (kSet 5 sc_law.nd (mF (mL (xTup (ax_cons (xList (by rfl) z_list (xv 3)) (ax_cons (xList (by rfl) z_list (xv 4)) ax_nil)))))) (bCons (kSet 6 sc_law.nd (mF (mL (xCal ok__law_heads hr (by rfl) (ax_cons (xv 3) (ax_cons (xv 4) ax_nil)))))) (bCons (kSetC (own := [("draw", 14)]) (g := (gName 14)) (tt := tYes) (te := (tOp qMod (tVar 14) (tOp rAdd' (tC (.int 2)) (tOp qMod (tOp (rIxX K) (tVar 1) (tC (.int 3))) (tC (.int 20)))))) 7 rfl sc_law.nd (jSeq (xf (xCal ok__law_numbers hr (by rfl) (ax_cons (xf (xCal ok__law_cell hr (by rfl) (ax_cons (xv 0) (ax_cons xInt ax_nil)))) (ax_cons (xv 2) (ax_cons xInt ax_nil)))))) (blkOk_by (own := [("draw", 14)]) (N := N_law) (sc := defScope s_law) (by decide +kernel)) (fun _ _ _ _ _ => (gN 14 sc_law.nd)) (fun _ _ _ _ _ => tsNil) (fun _ _ _ _ _ => (xMod (xv 14) (xAdd xInt (xMod (xIx hr (xv 1) xInt) xInt))))) (bCons (kIf (mT (tEqX hr (xMod (xIx hr (xv 1) xInt) xInt) xInt))
  (bOne (kSetC (own := [("track", 16)]) (g := (gName 16)) (tt := tYes) (te := (tOp qMul (tVar 16) (tOp qPow (tC (.int 10)) (tC (.int 25))))) 7 rfl sc_law.nd (jSeq (xv 7)) (blkOk_by (own := [("track", 16)]) (N := N_law) (sc := defScope s_law) (by decide +kernel)) (fun _ _ _ _ _ => (gN 16 sc_law.nd)) (fun _ _ _ _ _ => tsNil) (fun _ _ _ _ _ => (xMul (xv 16) (xPow xInt xInt)))))
  bNil) (bCons (kForV (f := b_law_1) PassesOwn.never rfl (jRng1 (by rfl) z_range xInt) (gN 8 sc_law.nd)
  (bCons (kSet 10 sc_law.nd (mL (xCal ok_run_heads hr (by rfl) (ax_cons (xIx hr (xv 5) xInt) (ax_cons (xIx hr (xv 5) xInt) ax_nil))))) (bCons (kSet 11 sc_law.nd (mL (xCal ok_after_pass hr (by rfl) (ax_cons (xIx hr (xv 5) xInt) (ax_cons (xf (xList (by rfl) z_list (xv 7))) ax_nil))))) (bCons (kIf (mT (tW (wOr (tNotX (tVal (xCal ok__law_same hr (by rfl) (ax_cons (xv 10) (ax_cons (xv 6) ax_nil))))) (wOr1 (tNotX (tVal (xCal ok__law_same hr (by rfl) (ax_cons (xv 11) (ax_cons (xf (xCal ok__law_after hr (by rfl) (ax_cons (xv 3) (ax_cons (xv 7) ax_nil)))) ax_nil)))))))))
  (bOne (kRet (mL xBl)))
  bNil) (bCons (kExp (mAppend 10 (mF (mL xInt)))) (bOne (kExp (mAppend 11 (mF (mL xInt)))))))))) (bCons (kForV (f := b_law_5) PassesOwn.never rfl (jSeq (xf (xLst (ax_cons xInt (ax_cons (xAdd xInt (xMod (xIx hr (xv 1) xInt) xInt)) (ax_cons (xAdd (xPow xInt xInt) (xIx hr (xv 1) xInt)) ax_nil)))))) (gN 9 sc_law.nd)
  (bCons (kSet 12 sc_law.nd (mF (mL xInt))) (bCons (kForV (f := b_law_2) PassesOwn.never rfl (jRng1 (by rfl) z_range xInt) (gN 13 sc_law.nd)
  (bOne (kIf (mT (tNotX (tVal (xCal ok__law_enough hr (by rfl) (ax_cons (xLen (by rfl) z_len (xv 6)) (ax_cons (xv 9) (ax_cons (xv 13) ax_nil)))))))
  (bOne (kSet 12 sc_law.nd (mF (mL (xAdd (xv 13) xInt)))))
  bNil))) (bCons (kIf (mT (tNotX (tVal (xCal ok__law_same hr (by rfl) (ax_cons (xf (xCal ok_least_passes hr (by rfl) (ax_cons (xIx hr (xv 5) xInt) (ax_cons (xIx hr (xv 5) xInt) (ax_cons (xv 9) ax_nil))))) (ax_cons (xv 12) ax_nil))))))
  (bOne (kRet (mL xBl)))
  bNil) (bOne (kForV (f := b_law_4) PassesOwn.never rfl (jSeq (xf (xLst (ax_cons xInt (ax_cons xInt (ax_cons (xMax2 rfl (by rfl) z_max xInt (xSub (xv 12) xInt)) (ax_cons (xv 12) (ax_cons (xAdd (xv 12) xInt) (ax_cons (xMod (xIx hr (xv 1) xInt) xInt) ax_nil))))))))) (gN 13 sc_law.nd)
  (bCons (kSet 15 sc_law.nd (mF (mL (xTup (ax_cons xStr (ax_cons (xv 6) ax_nil)))))) (bCons (kIf (mT (tGeX (xv 13) (xv 12)))
  (bOne (kSet 15 sc_law.nd (mF (mL (xTup (ax_cons xStr (ax_cons (xCal ok__law_lists hr (by rfl) (ax_cons (xv 3) (ax_cons (xv 4) (ax_cons (xv 9) (ax_cons (xv 13) ax_nil))))) ax_nil)))))))
  bNil) (bOne (kForV (f := b_law_3) PassesOwn.never rfl (jRng1 (by rfl) z_range xInt) (gN 8 sc_law.nd)
  (bCons (kSet 10 sc_law.nd (mL (xCal ok_in_passes hr (by rfl) (ax_cons (xIx hr (xv 5) xInt) (ax_cons (xIx hr (xv 5) xInt) (ax_cons (xv 9) (ax_cons (xv 13) ax_nil))))))) (bCons (kIf (mT (tNotX (tVal (xCal ok__law_same hr (by rfl) (ax_cons (xv 10) (ax_cons (xv 15) ax_nil))))))
  (bOne (kRet (mL xBl)))
  bNil) (bOne (kExp (mAppendP (qI hr (qV 10) xInt) (xf xInt)))))))))))))))) (bOne (kRet (mL (xEq hr (xv 5) (xTup (ax_cons (xv 3) (ax_cons (xv 4) ax_nil))))))))))))))))))⟩)
def d_run_heads : He.DefD := ⟨("run_heads", none), "run_heads", "run_heads", defArgs s_run_heads, defBody s_run_heads, defScope s_run_heads, [], []⟩
def d_run_numbers : He.DefD := ⟨("run_numbers", none), "run_numbers", "run_numbers", defArgs s_run_numbers, defBody s_run_numbers, defScope s_run_numbers, [], []⟩
def d_power : He.DefD := ⟨("power", none), "power", "power", defArgs s_power, defBody s_power, defScope s_power, [], []⟩
def d_digit : He.DefD := ⟨("digit", none), "digit", "digit", defArgs s_digit, defBody s_digit, defScope s_digit, [], []⟩
def d_after_pass : He.DefD := ⟨("after_pass", none), "after_pass", "after_pass", defArgs s_after_pass, defBody s_after_pass, defScope s_after_pass, [], []⟩
def d_in_passes : He.DefD := ⟨("in_passes", none), "in_passes", "in_passes", defArgs s_in_passes, defBody s_in_passes, defScope s_in_passes, [], []⟩
def d_least_passes : He.DefD := ⟨("least_passes", none), "least_passes", "least_passes", defArgs s_least_passes, defBody s_least_passes, defScope s_least_passes, [], []⟩
def d__law_cell : He.DefD := ⟨("_law_cell", none), "_law_cell", "_law_cell", defArgs s__law_cell, defBody s__law_cell, defScope s__law_cell, [], []⟩
def d__law_numbers : He.DefD := ⟨("_law_numbers", none), "_law_numbers", "_law_numbers", defArgs s__law_numbers, defBody s__law_numbers, defScope s__law_numbers, [], []⟩
def d__law_train : He.DefD := ⟨("_law_train", none), "_law_train", "_law_train", defArgs s__law_train, defBody s__law_train, defScope s__law_train, [], []⟩
def d__law_shuffled : He.DefD := ⟨("_law_shuffled", none), "_law_shuffled", "_law_shuffled", defArgs s__law_shuffled, defBody s__law_shuffled, defScope s__law_shuffled, [], []⟩
def d__law_heads : He.DefD := ⟨("_law_heads", none), "_law_heads", "_law_heads", defArgs s__law_heads, defBody s__law_heads, defScope s__law_heads, [], []⟩
def d__law_after : He.DefD := ⟨("_law_after", none), "_law_after", "_law_after", defArgs s__law_after, defBody s__law_after, defScope s__law_after, [], []⟩
def d__law_departing : He.DefD := ⟨("_law_departing", none), "_law_departing", "_law_departing", defArgs s__law_departing, defBody s__law_departing, defScope s__law_departing, [], []⟩
def d__law_enough : He.DefD := ⟨("_law_enough", none), "_law_enough", "_law_enough", defArgs s__law_enough, defBody s__law_enough, defScope s__law_enough, [], []⟩
def d__law_lists : He.DefD := ⟨("_law_lists", none), "_law_lists", "_law_lists", defArgs s__law_lists, defBody s__law_lists, defScope s__law_lists, [], []⟩
def d__law_same : He.DefD := ⟨("_law_same", none), "_law_same", "_law_same", defArgs s__law_same, defBody s__law_same, defScope s__law_same, [], []⟩
def d_law : He.DefD := ⟨("law", none), "law", "law", defArgs s_law, defBody s_law, defScope s_law, [], []⟩
def hfn0 : List He.DefD := [d_run_heads, d_run_numbers, d_power, d_digit, d_after_pass, d_in_passes, d_least_passes, d__law_cell, d__law_numbers, d__law_train, d__law_shuffled, d__law_heads, d__law_after, d__law_departing, d__law_enough, d__law_lists, d__law_same, d_law]
def hfa0 : List He.Fa := [.glo "run_heads", .glo "run_numbers", .glo "power", .glo "digit", .glo "after_pass", .glo "in_passes", .glo "least_passes", .glo "_law_cell", .glo "_law_numbers", .glo "_law_train", .glo "_law_shuffled", .glo "_law_heads", .glo "_law_after", .glo "_law_departing", .glo "_law_enough", .glo "_law_lists", .glo "_law_same", .glo "law", .free "bool", .free "int", .free "isinstance", .free "len", .free "list", .free "max", .free "range", .free "set", .free "sorted", .free "str", .free "tuple", .free "zip"]
def hls0 : List Str := ["run_heads", "run_numbers", "power", "digit", "after_pass", "in_passes", "least_passes", "_law_cell", "_law_numbers", "_law_train", "_law_shuffled", "_law_heads", "_law_after", "_law_departing", "_law_enough", "_law_lists", "_law_same"]
def hfn : List He.DefD := hfn0
def hfa : List He.Fa := hfa0
def hls : List Str := hls0
abbrev R : PySem.W.OpenRow := PySem.W.OpenLaw.row PySem.Challenge.rw_trackswhole_k67_sorting_in_passes
abbrev hk : PySem.W.Hook := He.hookD 4 hfa hfn
def ob (s : PySem.W.SharedT) : He.AlD := He.obsDG 4 hfa hfn (HandSHeadRun.getT s)
theorem ob_eq (s : PySem.W.SharedT) : ob s = hk.obs s.abs := He.obsDG_eq (HandSHeadRun.getT_eq s)
theorem run (w : World) : HandSHeadRun.RunEq R (PySem.W.view R.prog [19]) hk ob 3000 hls w := by
  intro os
  kernel_rfl
theorem facts {P : Program} {w : World} {K : PySem.W.Frag} {h : Heap} {mg : Str → Option Value} {f : Addr} (X : K.In h) (G : h.Ns mainGlobals mg) (hfa0 : mg ("law" : Str) = some (.ref f)) (c : He.SaysD hfa hfn K) :
    ∃ fd : FuncData, (∀ (s : Shared) (v : Value), BindsTo s fd ⟨[v], []⟩ [("script", v)]) ∧ ∀ base : Heap, K.In base → base.Ns mainGlobals mg → FnOk P w K mg base CX0 10 f fd ["script"] (Spg K mg fn_law) := by
  obtain ⟨fd_run_heads, F_run_heads⟩ := c.def_ 0 (d := d_run_heads) rfl
  have W_run_heads : Got K mg "run_heads" s_run_heads := ⟨_, fd_run_heads, F_run_heads, He.glo_ok X G (c.fact 0 (f := .glo "run_heads") rfl)⟩
  obtain ⟨fd_run_numbers, F_run_numbers⟩ := c.def_ 1 (d := d_run_numbers) rfl
  have W_run_numbers : Got K mg "run_numbers" s_run_numbers := ⟨_, fd_run_numbers, F_run_numbers, He.glo_ok X G (c.fact 1 (f := .glo "run_numbers") rfl)⟩
  obtain ⟨fd_power, F_power⟩ := c.def_ 2 (d := d_power) rfl
  have W_power : Got K mg "power" s_power := ⟨_, fd_power, F_power, He.glo_ok X G (c.fact 2 (f := .glo "power") rfl)⟩
  obtain ⟨fd_digit, F_digit⟩ := c.def_ 3 (d := d_digit) rfl
  have W_digit : Got K mg "digit" s_digit := ⟨_, fd_digit, F_digit, He.glo_ok X G (c.fact 3 (f := .glo "digit") rfl)⟩
  obtain ⟨fd_after_pass, F_after_pass⟩ := c.def_ 4 (d := d_after_pass) rfl
  have W_after_pass : Got K mg "after_pass" s_after_pass := ⟨_, fd_after_pass, F_after_pass, He.glo_ok X G (c.fact 4 (f := .glo "after_pass") rfl)⟩
  obtain ⟨fd_in_passes, F_in_passes⟩ := c.def_ 5 (d := d_in_passes) rfl
  have W_in_passes : Got K mg "in_passes" s_in_passes := ⟨_, fd_in_passes, F_in_passes, He.glo_ok X G (c.fact 5 (f := .glo "in_passes") rfl)⟩
  obtain ⟨fd_least_passes, F_least_passes⟩ := c.def_ 6 (d := d_least_passes) rfl
  have W_least_passes : Got K mg "least_passes" s_least_passes := ⟨_, fd_least_passes, F_least_passes, He.glo_ok X G (c.fact 6 (f := .glo "least_passes") rfl)⟩
  obtain ⟨fd__law_cell, F__law_cell⟩ := c.def_ 7 (d := d__law_cell) rfl
  have W__law_cell : Got K mg "_law_cell" s__law_cell := ⟨_, fd__law_cell, F__law_cell, He.glo_ok X G (c.fact 7 (f := .glo "_law_cell") rfl)⟩
  obtain ⟨fd__law_numbers, F__law_numbers⟩ := c.def_ 8 (d := d__law_numbers) rfl
  have W__law_numbers : Got K mg "_law_numbers" s__law_numbers := ⟨_, fd__law_numbers, F__law_numbers, He.glo_ok X G (c.fact 8 (f := .glo "_law_numbers") rfl)⟩
  obtain ⟨fd__law_train, F__law_train⟩ := c.def_ 9 (d := d__law_train) rfl
  have W__law_train : Got K mg "_law_train" s__law_train := ⟨_, fd__law_train, F__law_train, He.glo_ok X G (c.fact 9 (f := .glo "_law_train") rfl)⟩
  obtain ⟨fd__law_shuffled, F__law_shuffled⟩ := c.def_ 10 (d := d__law_shuffled) rfl
  have W__law_shuffled : Got K mg "_law_shuffled" s__law_shuffled := ⟨_, fd__law_shuffled, F__law_shuffled, He.glo_ok X G (c.fact 10 (f := .glo "_law_shuffled") rfl)⟩
  obtain ⟨fd__law_heads, F__law_heads⟩ := c.def_ 11 (d := d__law_heads) rfl
  have W__law_heads : Got K mg "_law_heads" s__law_heads := ⟨_, fd__law_heads, F__law_heads, He.glo_ok X G (c.fact 11 (f := .glo "_law_heads") rfl)⟩
  obtain ⟨fd__law_after, F__law_after⟩ := c.def_ 12 (d := d__law_after) rfl
  have W__law_after : Got K mg "_law_after" s__law_after := ⟨_, fd__law_after, F__law_after, He.glo_ok X G (c.fact 12 (f := .glo "_law_after") rfl)⟩
  obtain ⟨fd__law_departing, F__law_departing⟩ := c.def_ 13 (d := d__law_departing) rfl
  have W__law_departing : Got K mg "_law_departing" s__law_departing := ⟨_, fd__law_departing, F__law_departing, He.glo_ok X G (c.fact 13 (f := .glo "_law_departing") rfl)⟩
  obtain ⟨fd__law_enough, F__law_enough⟩ := c.def_ 14 (d := d__law_enough) rfl
  have W__law_enough : Got K mg "_law_enough" s__law_enough := ⟨_, fd__law_enough, F__law_enough, He.glo_ok X G (c.fact 14 (f := .glo "_law_enough") rfl)⟩
  obtain ⟨fd__law_lists, F__law_lists⟩ := c.def_ 15 (d := d__law_lists) rfl
  have W__law_lists : Got K mg "_law_lists" s__law_lists := ⟨_, fd__law_lists, F__law_lists, He.glo_ok X G (c.fact 15 (f := .glo "_law_lists") rfl)⟩
  obtain ⟨fd__law_same, F__law_same⟩ := c.def_ 16 (d := d__law_same) rfl
  have W__law_same : Got K mg "_law_same" s__law_same := ⟨_, fd__law_same, F__law_same, He.glo_ok X G (c.fact 16 (f := .glo "_law_same") rfl)⟩
  obtain ⟨fd_law, F_law⟩ := c.def_ 17 (d := d_law) rfl
  have z_bool : mg "bool" = none := He.free_ok X G (c.fact 18 (f := .free "bool") rfl)
  have z_int : mg "int" = none := He.free_ok X G (c.fact 19 (f := .free "int") rfl)
  have z_isinstance : mg "isinstance" = none := He.free_ok X G (c.fact 20 (f := .free "isinstance") rfl)
  have z_len : mg "len" = none := He.free_ok X G (c.fact 21 (f := .free "len") rfl)
  have z_list : mg "list" = none := He.free_ok X G (c.fact 22 (f := .free "list") rfl)
  have z_max : mg "max" = none := He.free_ok X G (c.fact 23 (f := .free "max") rfl)
  have z_range : mg "range" = none := He.free_ok X G (c.fact 24 (f := .free "range") rfl)
  have z_set : mg "set" = none := He.free_ok X G (c.fact 25 (f := .free "set") rfl)
  have z_sorted : mg "sorted" = none := He.free_ok X G (c.fact 26 (f := .free "sorted") rfl)
  have z_str : mg "str" = none := He.free_ok X G (c.fact 27 (f := .free "str") rfl)
  have z_tuple : mg "tuple" = none := He.free_ok X G (c.fact 28 (f := .free "tuple") rfl)
  have z_zip : mg "zip" = none := He.free_ok X G (c.fact 29 (f := .free "zip") rfl)
  have e := hfa0.symm.trans (He.glo_ok X G (c.fact 17 (f := .glo "law") rfl))
  cases e
  have b := FunD.bindsA (ps := ["script"]) F_law fun _ _ _ _ _ _ us hl => match us, hl with | [_], _ => rfl
  refine ⟨fd_law, fun s v => b s [v] rfl, fun base _ _ => ?_⟩
  have ok_run_heads : FnX P w K mg base "run_heads" 1 fn_run_heads := K67.ok_run_heads W_run_heads z_len z_range
  have ok_run_numbers : FnX P w K mg base "run_numbers" 2 fn_run_numbers := K67.ok_run_numbers W_run_numbers ok_run_heads
  have ok_power : FnX P w K mg base "power" 1 fn_power := K67.ok_power W_power z_range
  have ok_digit : FnX P w K mg base "digit" 1 fn_digit := K67.ok_digit W_digit z_int z_range
  have ok_after_pass : FnX P w K mg base "after_pass" 1 fn_after_pass := K67.ok_after_pass W_after_pass z_set z_sorted z_zip
  have ok_in_passes : FnX P w K mg base "in_passes" 3 fn_in_passes := K67.ok_in_passes W_in_passes z_len z_list z_range ok_run_heads ok_power ok_run_numbers ok_digit ok_after_pass
  have ok_least_passes : FnX P w K mg base "least_passes" 2 fn_least_passes := K67.ok_least_passes W_least_passes z_len ok_run_heads ok_power
  have ok__law_cell : FnX P w K mg base "_law_cell" 1 fn__law_cell := K67.ok__law_cell W__law_cell z_int z_len
  have ok__law_numbers : FnX P w K mg base "_law_numbers" 1 fn__law_numbers := K67.ok__law_numbers W__law_numbers z_int z_range
  have ok__law_train : FnX P w K mg base "_law_train" 2 fn__law_train := K67.ok__law_train W__law_train z_len z_list z_range ok__law_numbers
  have ok__law_shuffled : FnX P w K mg base "_law_shuffled" 2 fn__law_shuffled := K67.ok__law_shuffled W__law_shuffled z_len z_list z_range ok__law_numbers
  have ok__law_heads : FnX P w K mg base "_law_heads" 1 fn__law_heads := K67.ok__law_heads W__law_heads z_len z_range
  have ok__law_after : FnX P w K mg base "_law_after" 1 fn__law_after := K67.ok__law_after W__law_after z_len z_range z_sorted
  have ok__law_departing : FnX P w K mg base "_law_departing" 3 fn__law_departing := K67.ok__law_departing W__law_departing z_len z_range ok__law_shuffled ok__law_numbers
  have ok__law_enough : FnX P w K mg base "_law_enough" 1 fn__law_enough := K67.ok__law_enough W__law_enough z_range
  have ok__law_lists : FnX P w K mg base "_law_lists" 2 fn__law_lists := K67.ok__law_lists W__law_lists z_list z_range ok__law_heads ok__law_after
  have ok__law_same : FnX P w K mg base "_law_same" 9 (fn__law_same 8) := K67.ok__law_same W__law_same z_bool z_int z_isinstance z_len z_list z_range z_str z_tuple 8
  exact K67.ok_law F_law z_len z_list z_max z_range ok__law_cell ok__law_numbers ok__law_train ok__law_departing ok__law_heads ok_run_heads ok_after_pass ok__law_after ok__law_same ok__law_enough ok_least_passes ok__law_lists ok_in_passes

theorem fin (hl : ∀ ns : List Int, ns.length ≤ 63 → (∀ z ∈ ns, Builtin.Int.intBits z ≤ 1048576) → ∃ os, fn_law [.fr (.kl (ns.map D.int))] = some (.fr (.bool true), os)) : PySem.Challenge.rw_trackswhole_k67_sorting_in_passes.Holds := by
  w_on; o_law
  refine HandSHeadRun.head_any (r := PySem.W.OpenLaw.row PySem.Challenge.rw_trackswhole_k67_sorting_in_passes) (q := PySem.W.view (PySem.W.OpenLaw.row PySem.Challenge.rw_trackswhole_k67_sorting_in_passes).prog [19]) (H := hk) (ob := ob) (M := 3000) (loose := hls) (d := HandSHeadRun.topDef (PySem.W.OpenLaw.row PySem.Challenge.rw_trackswhole_k67_sorting_in_passes).prog 19) (kwd := []) ob_eq
    (by kernel_rfl) (fun s => by kernel_rfl) run (by kernel_rfl) (by kernel_rfl) (by kernel_rfl) (by rfl) (by first | assumption | decide +kernel) (by decide +kernel) ⟨rfl, rfl, rfl, rfl, rfl, by decide +kernel⟩ ?hw ?hc
  case hw => w_witness2
  case hc =>
    refine Tw.walk_ofEB (l := PySem.Challenge.rw_trackswhole_k67_sorting_in_passes) (n := 63) (k := 10) (x := "script") rfl (by decide) (by kernel_rfl) ⟨rfl, by decide, by decide⟩ ?F
    intro w mg fa h Y G hmg0
    obtain ⟨K, KX, c⟩ := Y
    have hmg : mg ("law" : Str) = some (.ref fa) := by
      have e : (HandSHeadRun.topDef (PySem.W.OpenLaw.row PySem.Challenge.rw_trackswhole_k67_sorting_in_passes).prog 19).name = ("law" : Str) := by kernel_rfl
      rw [← e]
      exact hmg0
    obtain ⟨fd, hb, hF⟩ := facts (P := (PySem.Challenge.rw_trackswhole_k67_sorting_in_passes).prog) (w := w) KX G hmg c
    exact ⟨K, fd, Spg K mg fn_law, KX, hb, fun H a ns h1 h2 hO hS => Tw.law_sp hl H a ns h1 h2 hO hS, hF⟩
end K67
namespace K67
open PySem PySem.Spec PyProof.Rows L2 Tw

theorem law_cell (ns : List Int) (k : Nat) (hk : k < 64) : fn__law_cell [.fr (.kl (ns.map D.int)), .fr (.int (k : Int))] = some (.fr (.int (ns.getD k (31 * k + 5))), [.fr (.kl (ns.map D.int)), .fr (.int (k : Int))]) := by
  have hb : bitsOk 31 k = true := bitsOk_of 6 6 (by decide) (by omega)
  by_cases h : k < ns.length <;> simp [fn__law_cell, fnP, b__law_cell, env0, gLen, h, gIx_kl, gInt, hb]
abbrev oI (n : Int) : O := .fr (.int n)
abbrev oL (ns : List Int) : O := .fr (.list (ns.map D.int))
abbrev wL (ns : List Int) : O := .list (ns.map fun x => .fr (.int x))
theorem log2_div {a b : Int} (h0 : 0 ≤ a) (h : 0 < b) : (a / b).natAbs.log2 ≤ a.natAbs.log2 := by
  have h1 : (a / b).natAbs ≤ a.natAbs := by
    have := Int.ediv_le_self b h0
    have := Int.ediv_nonneg h0 (Int.le_of_lt h)
    omega
  by_cases z : (a / b).natAbs = 0
  · rw [z]; simp
  · exact Nat.le_log2 (by omega) |>.mpr (Nat.le_trans (Nat.log2_self_le z) h1)
def mix1 (cell : Int) (i : Nat) : Int := (cell * 48271 + i * 69621 + 7) % 2147483647
def mix2 (cell : Int) (i : Nat) : Int := (mix1 cell i * mix1 cell i + mix1 cell i * 40692 + i * 16807 + 11) % 2147483399
theorem law_numbers (cell : Int) (count : Nat) (limit : Int) (h1 : cell.natAbs.log2 ≤ 1048600) (h2 : count ≤ 1000) (h3 : 0 < limit) (h4 : limit < 2 ^ 40) :
    ∃ xs : List Int, xs.length = count ∧ (∀ x ∈ xs, 0 ≤ x ∧ x < limit) ∧ fn__law_numbers [oI cell, oI count, oI limit] = some (wL xs, [oI cell, oI count, oI limit]) := by
  have hok : OKR count = true := OKR_of (by omega) (by omega)
  have hl : (rng 0 count).length = count := by simp
  by_cases hc : (1000000000000000000 : Int) ≤ cell
  · obtain ⟨ρ', e, xs, c, y4, y5, rfl, k1, k2, k3⟩ := forGo_inv (u := uN 4) (body := b__law_numbers_1) (fun i ρ => ∃ (xs : List Int) (c : Int) (y4 y5 : Option O), ρ = [some (oI c), some (oI count), some (oI limit), some (wL xs), y4, y5] ∧ xs.length = i ∧ (∀ x ∈ xs, 0 ≤ x ∧ x < limit) ∧ 0 ≤ c)
      ((rng 0 count).map fun i => O.fr (D.int i)) [some (O.fr (D.int (cell - 1000000000000000000))), some (oI count), some (oI limit), some (O.list []), none, none] ⟨[], _, none, none, rfl, rfl, by simp, by omega⟩ (by
      rintro i o ρ ho ⟨xs, c, y4, y5, rfl, k1, k2, k3⟩
      have hi := (List.getElem?_eq_some_iff.mp ho).1
      rw [List.length_map, hl] at hi
      have hm : modOk c limit = true := modOk_of h3
      have hd : divOk c limit = true := divOk_of h3 (by omega)
      have hz : xs.length < 16777216 := by omega
      refine ⟨_, _, rfl, .inl ?_, xs ++ [c % limit], c / limit, some o, y5, rfl, by simp [k1], ?_, Int.ediv_nonneg k3 (Int.le_of_lt h3)⟩
      · simp [b__law_numbers_1, gInt, hm, hd, hz, LINE]
      · intro x hx
        rcases List.mem_append.mp hx with hx | hx
        · exact k2 x hx
        · rw [List.mem_singleton.mp hx]
          exact ⟨Int.emod_nonneg _ (by omega), Int.emod_lt_of_pos _ h3⟩)
    refine ⟨xs, by simpa using k1, k2, ?_⟩
    simp [fn__law_numbers, fnP, b__law_numbers, env0, hc, hok, e]
  · obtain ⟨ρ', e, xs, y4, y5, rfl, k1, k2⟩ := forGo_inv (u := uN 4) (body := b__law_numbers_2) (fun i ρ => ∃ (xs : List Int) (y4 y5 : Option O), ρ = [some (oI cell), some (oI count), some (oI limit), some (wL xs), y4, y5] ∧ xs.length = i ∧ (∀ x ∈ xs, 0 ≤ x ∧ x < limit))
      ((rng 0 count).map fun i => O.fr (D.int i)) [some (oI cell), some (oI count), some (oI limit), some (O.list []), none, none] ⟨[], none, none, rfl, rfl, by simp⟩ (by
      rintro i o ρ ho ⟨xs, y4, y5, rfl, k1, k2⟩
      have hi := (List.getElem?_eq_some_iff.mp ho).1
      rw [List.length_map, hl] at hi
      rw [List.getElem?_map, rng_get _ _ _ (by omega)] at ho
      simp at ho
      subst ho
      have hz : xs.length < 16777216 := by omega
      have m1 : ∀ x, modOk x 2147483647 = true := fun x => modOk_of (by decide)
      have m2 : ∀ x, modOk x 2147483399 = true := fun x => modOk_of (by decide)
      have m3 : ∀ x, modOk x limit = true := fun x => modOk_of h3
      have d1 : ∀ x, divOk x 32 = true := fun x => divOk_of (by decide) (by decide)
      have b1 : bitsOk cell 48271 = true := bitsOk_lit' (by omega) (by decide)
      have b2 : bitsOk i 69621 = true := bitsOk_sm (by omega) (by decide)
      have b5 : bitsOk i 16807 = true := bitsOk_sm (by omega) (by decide)
      have q : ∀ x : Int, 0 ≤ x % 2147483647 ∧ x % 2147483647 < 2147483647 := fun x => ⟨Int.emod_nonneg _ (by decide), Int.emod_lt_of_pos _ (by decide)⟩
      have b3 : ∀ x : Int, bitsOk (x % 2147483647) (x % 2147483647) = true := fun x => bitsOk_sm (by have := q x; omega) (by have := q x; omega)
      have b4 : ∀ x : Int, bitsOk (x % 2147483647) 40692 = true := fun x => bitsOk_sm (by have := q x; omega) (by decide)
      refine ⟨_, [some (oI cell), some (oI count), some (oI limit), some (wL (xs ++ [mix2 cell i / 32 % limit])), some (oI i), some (oI (mix2 cell i))], rfl, .inl ?_, _, _, _, rfl, by simp [k1], ?_⟩
      · simp [b__law_numbers_2, gInt, m1, m2, m3, d1, b1, b2, b3, b4, b5, hz, LINE, mix2, mix1]
      · intro x hx
        rcases List.mem_append.mp hx with hx | hx
        · exact k2 x hx
        · rw [List.mem_singleton.mp hx]
          exact ⟨Int.emod_nonneg _ (by omega), Int.emod_lt_of_pos _ h3⟩)
    refine ⟨xs, by simpa using k1, k2, ?_⟩
    simp [fn__law_numbers, fnP, b__law_numbers, env0, hc, hok, e]
theorem law_shuffled (ds : List D) (cell : Int) (h1 : cell.natAbs.log2 ≤ 1048600) (h2 : ds.length ≤ 1000) :
    ∃ es : List D, es.Perm ds ∧ fn__law_shuffled [.fr (.list ds), oI cell] = some (.list (es.map .fr), [.fr (.list ds), oI cell]) := by
  obtain ⟨xs, k1, k2, k3⟩ := law_numbers cell ds.length 20160 h1 h2 (by decide) (by decide)
  have hok : OKR ds.length = true := OKR_of (by omega) (by omega)
  obtain ⟨ρ', e, es, rest, y5, rfl, q1, q2⟩ := forGo_inv (u := uN 5) (body := b__law_shuffled_1) (fun i ρ => ∃ (es rest : List D) (y5 : Option O), ρ = [some (.fr (.list ds)), some (oI cell), some (oL xs), some (.list (rest.map .fr)), some (.list (es.map .fr)), y5] ∧ (es ++ rest).Perm ds ∧ es.length = i)
    ((rng 0 ds.length).map fun i => O.fr (D.int i)) [some (.fr (.list ds)), some (oI cell), some (oL xs), some (.list (ds.map .fr)), some (.list []), none] ⟨[], ds, none, rfl, by simp, rfl⟩ (by
      rintro i o ρ ho ⟨es, rest, y5, rfl, q1, q2⟩
      have hi := (List.getElem?_eq_some_iff.mp ho).1
      rw [List.length_map, rng_length] at hi
      rw [List.getElem?_map, rng_get _ _ _ (by omega)] at ho
      simp at ho
      subst ho
      have hl := q1.length_eq
      rw [List.length_append, q2] at hl
      have hx : i < xs.length := by omega
      have hr : 0 < rest.length := by omega
      have j0 : 0 ≤ xs[i] % (rest.length : Int) := Int.emod_nonneg _ (by omega)
      have j1 : xs[i] % (rest.length : Int) < rest.length := Int.emod_lt_of_pos _ (by omega)
      have hm : modOk xs[i] rest.length = true := modOk_of (by omega)
      have hj : (xs[i] % (rest.length : Int)).toNat < rest.length := by omega
      have hp := muPopAt_nn (rest.map .fr) (i := xs[i] % (rest.length : Int)) j0 (by simpa using j1) (by simp; omega)
      have hz : es.length < 16777216 := by omega
      refine ⟨_, _, rfl, .inl ?_, es ++ [rest[(xs[i] % (rest.length : Int)).toNat]], rest.eraseIdx (xs[i] % (rest.length : Int)).toNat, some (oI i), rfl, ?_, by simp [q2]⟩
      · simp [b__law_shuffled_1, hx, hm, hp, hj, hz, LINE]
      · rw [List.append_assoc]
        exact ((eraseIdx_perm rest _ hj).append_left es).trans q1)
  have hr : rest = [] := by
    have hl := q1.length_eq
    rw [List.length_append, q2, List.length_map, rng_length] at hl
    exact List.eq_nil_of_length_eq_zero (by omega)
  subst hr
  refine ⟨es, by simpa using q1, ?_⟩
  simp [fn__law_shuffled, fnP, b__law_shuffled, env0, hok, e, k3, gList]
def base (w : Int) : Int := if 100000000000000000000 ≤ w.natAbs then w / 100000000000000000000 else w.natAbs
def sgn (d w : Int) : Int := if d % 16 = 0 then w * 100000000000000000000 else if d % 16 < 4 then 0 - w else w
theorem base_sgn {d w : Int} (h1 : 1 ≤ w) (h2 : w ≤ 1000) : base (sgn d w) = w ∧ sgn d w ≠ 0 ∧ (sgn d w).natAbs ≤ 1000 * 100000000000000000000 := by
  unfold base sgn
  split
  · rw [if_pos (by omega)]; omega
  · split
    · rw [if_neg (by omega)]; omega
    · rw [if_neg (by omega)]; omega
theorem law_train (cell : Int) (count : Nat) (h1 : cell.natAbs.log2 ≤ 1048600) (h2 : count ≤ 200) :
    ∃ ws : List Int, ws.length = count ∧ ws.Nodup ∧ (∀ w ∈ ws, w.natAbs ≤ 1000 * 100000000000000000000) ∧ fn__law_train [oI cell, oI count] = some (wL ws, [oI cell, oI count]) := by
  obtain ⟨xs, k1, k2, k3⟩ := law_numbers cell (2 * count) 20160 h1 (by omega) (by decide) (by decide)
  have hok : OKR count = true := OKR_of (by omega) (by omega)
  have hok2 : OKR (count + 1) = true := OKR_of (by omega) (by omega)
  have hok3 : OKR 1 = true := OKR_of (by omega) (by omega)
  have hb : bitsOk 2 count = true := bitsOk_sm (by omega) (by omega)
  have hbt : ∀ w : Int, 1 ≤ w → w ≤ 1000 → bitsOk w 100000000000000000000 = true := fun w a b => bitsOk_sm (by omega) (by decide)
  have k3' : fn__law_numbers [O.fr (D.int cell), O.fr (D.int (2 * (count : Int))), O.fr (D.int 20160)] = some (wL xs, [oI cell, oI (2 * (count : Int)), oI 20160]) := by simpa using k3
  obtain ⟨ρ', e, ws, rest, y5, y6, rfl, q1, q2, q3, q4, q5⟩ := forGo_inv (u := uN 5) (body := b__law_train_1) (fun i ρ => ∃ (ws rest : List Int) (y5 y6 : Option O), ρ = [some (oI cell), some (oI count), some (oL xs), some (wL rest), some (wL ws), y5, y6] ∧ (ws.map base ++ rest).Nodup ∧ ws.length = i ∧ rest.length + i = count ∧ (∀ r ∈ rest, 1 ≤ r ∧ r ≤ 1000) ∧ ∀ w ∈ ws, w.natAbs ≤ 1000 * 100000000000000000000)
    ((rng 0 count).map fun i => O.fr (D.int i)) [some (oI cell), some (oI count), some (oL xs), some (wL (rng 1 (count + 1))), some (.list []), none, none] ⟨[], rng 1 (count + 1), none, none, rfl, by
      simp only [List.map_nil, List.nil_append]
      exact rng_nodup _ _, rfl, by simp, fun r hr => by have := mem_rng.mp hr; omega, by simp⟩ (by
      rintro i o ρ ho ⟨ws, rest, y5, y6, rfl, q1, q2, q3, q4, q5⟩
      have hi := (List.getElem?_eq_some_iff.mp ho).1
      rw [List.length_map, rng_length] at hi
      rw [List.getElem?_map, rng_get _ _ _ (by omega)] at ho
      simp at ho
      subst ho
      have hx : i < xs.length := by omega
      have hx2 : count + i < xs.length := by omega
      have hr : 0 < rest.length := by omega
      have j0 : 0 ≤ xs[i] % (rest.length : Int) := Int.emod_nonneg _ (by omega)
      have j1 : xs[i] % (rest.length : Int) < rest.length := Int.emod_lt_of_pos _ (by omega)
      have hm : modOk xs[i] rest.length = true := modOk_of (by omega)
      have hm2 : ∀ x, modOk x 16 = true := fun x => modOk_of (by decide)
      have hj : (xs[i] % (rest.length : Int)).toNat < rest.length := by omega
      have hp := muPopAt_nn (rest.map fun x => .fr (.int x)) (i := xs[i] % (rest.length : Int)) j0 (by simpa using j1) (by simp; omega)
      have hz : ws.length < 16777216 := by omega
      have hw := q4 _ (List.getElem_mem hj)
      have hbb := hbt _ hw.1 hw.2
      have hs := base_sgn (d := xs[count + i]) hw.1 hw.2
      have hci : atI xs ((count : Int) + (i : Int)) = some xs[count + i] := by
        have : ((count : Int) + (i : Int)) = ((count + i : Nat) : Int) := by omega
        rw [this, atI_cast, List.getElem?_eq_getElem hx2]
      refine ⟨_, [some (oI cell), some (oI count), some (oL xs), some (wL (rest.eraseIdx (xs[i] % (rest.length : Int)).toNat)), some (wL (ws ++ [sgn xs[count + i] rest[(xs[i] % (rest.length : Int)).toNat]])), some (oI i), some (oI (sgn xs[count + i] rest[(xs[i] % (rest.length : Int)).toNat]))], rfl, .inl ?_, _, _, _, _, rfl, ?_, by simp [q2], ?_, ?_, ?_⟩
      · by_cases c1 : xs[count + i] % 16 = 0
        · simp [b__law_train_1, hx, hm, hp, hj, hz, LINE, hm2, hci, gEq, c1, sgn, hbb]
        · by_cases c2 : xs[count + i] % 16 < 4
          · simp [b__law_train_1, hx, hm, hp, hj, hz, LINE, hm2, hci, gEq, c1, c2, sgn]
          · simp [b__law_train_1, hx, hm, hp, hj, hz, LINE, hm2, hci, gEq, c1, c2, sgn]
      · rw [List.map_append, List.append_assoc, List.map_singleton, hs.1]
        exact (((eraseIdx_perm rest _ hj).append_left (ws.map base)).nodup_iff).mpr q1
      · rw [List.length_eraseIdx, if_pos hj]; omega
      · exact fun r hr => q4 r (List.mem_of_mem_eraseIdx hr)
      · intro w hw
        rcases List.mem_append.mp hw with hw | hw
        · exact q5 w hw
        · rw [List.mem_singleton.mp hw]; exact hs.2.2)
  refine ⟨ws, by simpa using q2, ?_, q5, ?_⟩
  · exact nodup_of_map base (List.nodup_append.mp q1).1
  · have hz : (count : Int) ≤ 16777216 := by omega
    simp [fn__law_train, fnP, b__law_train, env0, hok, hok2, hok3, e, k3', hb, hz]
theorem flatMap_mod_perm (ks : List Nat) (f : Nat → Nat) (many : Nat) (h : ∀ k ∈ ks, f k < many) : ((List.range many).flatMap fun t => ks.filter fun k => f k = t).Perm ks := by
  induction many generalizing ks with
  | zero =>
    cases ks with
    | nil => simp
    | cons k ks => have := h k List.mem_cons_self; omega
  | succ n ih =>
    rw [List.range_succ, List.flatMap_append]
    simp only [List.flatMap_cons, List.flatMap_nil, List.append_nil]
    have h1 := ih (ks.filter fun k => f k < n) fun k hk => by simpa using (List.mem_filter.mp hk).2
    have e : ((List.range n).flatMap fun t => ks.filter fun k => f k = t) = (List.range n).flatMap fun t => (ks.filter fun k => f k < n).filter fun k => f k = t := by
      rw [List.flatMap_def, List.flatMap_def]
      refine congrArg _ (List.map_congr_left fun t ht => ?_)
      rw [List.filter_filter]
      refine List.filter_congr fun k _ => ?_
      have := List.mem_range.mp ht
      by_cases c : f k = t <;> simp [c] <;> omega
    rw [e]
    refine (h1.append_right _).trans ?_
    have e2 : (ks.filter fun k => f k = n) = ks.filter fun k => !decide (f k < n) := List.filter_congr fun k hk => by
      have := h k hk
      by_cases c : f k = n <;> simp [c] <;> omega
    rw [e2]
    exact List.filter_append_perm _ _
theorem perm_map_range (ws : List Int) (ks : List Nat) (h : ks.Perm (List.range ws.length)) : (ks.map fun k => ws.getD k 0).Perm ws := by
  refine (h.map _).trans ?_
  have : (List.range ws.length).map (fun k => ws.getD k 0) = ws := by
    apply List.ext_getElem
    · simp
    · intro i h1 h2
      simp at h1
      simp [h1]
  rw [this]
abbrev oP (p0 p1 : Int) : O := .fr (.list [.int p0, .int p1])
theorem law_departing (ws : List Int) (cell p0 p1 : Int) (h1 : cell.natAbs.log2 ≤ 1048600) (h2 : ws.length ≤ 200) :
    ∃ es : List Int, es.Perm ws ∧ fn__law_departing [oL ws, oI cell, oP p0 p1] = some (wL es, [oL ws, oI cell, oP p0 p1]) := by
  have m1 : modOk p0 3 = true := modOk_of (by decide)
  have m2 : modOk p0 9 = true := modOk_of (by decide)
  have m3 : modOk p1 9 = true := modOk_of (by decide)
  have hok : OKR ws.length = true := OKR_of (by omega) (by omega)
  have hz : ws.length ≤ 16777216 := by omega
  by_cases c1 : p0 % 3 = 0
  · obtain ⟨es, k1, k2⟩ := law_shuffled (ws.map D.int) cell h1 (by simpa using (by omega : ws.length ≤ 1000))
    obtain ⟨es', rfl, k3⟩ := perm_ints k1
    refine ⟨es', k3, ?_⟩
    simp [fn__law_departing, fnP, b__law_departing, env0, m1, gEq, c1, k2, Function.comp_def]
  by_cases c2 : p0 % 9 = 1
  · refine ⟨ws.reverse, List.reverse_perm _, ?_⟩
    have e := lcGo_rng (i := 8) (n := ws.length) (fe := x2 gIx (xNm 0) (x2 Tw.gSub (x2 Tw.gSub (xNm 3) (xC (.int 1))) (xNm 8))) (ρ := [some (oL ws), some (oI cell), some (oP p0 p1), some (oI ws.length), none, none, none, none, none]) (fun k => .fr (.int (ws.getD (ws.length - 1 - k) 0))) (by
      intro k hk
      have : ((ws.length : Int) - 1 - k) = ((ws.length - 1 - k : Nat) : Int) := by omega
      have h : ws.length - 1 - k < ws.length := by omega
      simp [this, h])
    have e2 : (List.range ws.length).map (fun k => O.fr (.int (ws.getD (ws.length - 1 - k) 0))) = ws.reverse.map fun x => .fr (.int x) := by
      apply List.ext_getElem
      · simp
      · intro i h1 h2
        simp at h1
        simp [h1]
        rw [List.getElem?_eq_getElem (by omega)]
        simp
    rw [e2] at e
    simp [fn__law_departing, fnP, b__law_departing, env0, m1, m2, gEq, c1, c2, hok, hz, LINE, e]
  · obtain ⟨xs, k1, k2, k3⟩ := law_numbers cell ws.length 20160 h1 (by omega) (by decide) (by decide)
    have hm0 : 0 ≤ p1 % 9 := Int.emod_nonneg _ (by decide)
    have hm1 : p1 % 9 < 9 := Int.emod_lt_of_pos _ (by decide)
    obtain ⟨n, hn⟩ : ∃ n : Nat, p1 % 9 = n := Int.eq_ofNat_of_zero_le hm0
    have hmany : (1 : Int) + p1 % 9 = ((n : Int) + 1) := by omega
    have hok2 : OKR ((n : Int) + 1) = true := OKR_of (by omega) (by omega)
    have mm : ∀ x, modOk x ((n : Int) + 1) = true := fun x => modOk_of (by omega)
    have hx0 : ∀ k, k < ws.length → 0 ≤ xs.getD k 0 := fun k hk => by
      have hk' : k < xs.length := by omega
      have := k2 xs[k] (List.getElem_mem hk')
      simp [hk']; omega
    let f : Nat → Nat := fun k => (xs.getD k 0).toNat % (n + 1)
    let part : Nat → List Int := fun t => ((List.range ws.length).filter fun k => f k = t).map fun k => ws.getD k 0
    have hlen : ∀ m, ((List.range m).flatMap part).length ≤ m * ws.length := fun m => by
      induction m with
      | zero => simp
      | succ m ih =>
        rw [List.range_succ, List.flatMap_append, List.length_append]
        have : (part m).length ≤ ws.length := by
          simp only [part, List.length_map]
          exact Nat.le_trans (List.length_filter_le _ _) (by simp)
        simp only [List.flatMap_cons, List.flatMap_nil, List.append_nil]
        rw [Nat.succ_mul]
        omega
    obtain ⟨ρ', e, y7, rfl⟩ := forGo_rng (i := 7) (n := n + 1) (body := b__law_departing_1) (fun k ρ => ∃ y7 : Option O, ρ = [some (oL ws), some (oI cell), some (oP p0 p1), some (oI ws.length), some (oL xs), some (oI ((n : Int) + 1)), some (wL ((List.range k).flatMap part)), y7, none])
      (ρ := [some (oL ws), some (oI cell), some (oP p0 p1), some (oI ws.length), some (oL xs), some (oI ((n : Int) + 1)), some (.list []), none, none]) ⟨none, rfl⟩ (by
        rintro k hk ρ ⟨y7, rfl⟩
        have e := lcGo_rngf (i := 8) (n := ws.length) (ft := tV (x2 gEq (x2 gMod (x2 gIx (xNm 4) (xNm 8)) (xNm 5)) (xNm 7))) (fe := x2 gIx (xNm 0) (xNm 8)) (ρ := [some (oL ws), some (oI cell), some (oP p0 p1), some (oI ws.length), some (oL xs), some (oI ((n : Int) + 1)), some (.bo (.list (((List.range k).flatMap part).map D.int))), some (oI k), none]) (fun j => f j = k) (fun j => .fr (.int (ws.getD j 0))) (by
          intro j hj
          have hj' : j < xs.length := by omega
          have hx := hx0 j hj
          have ef : (xs[j] % ((n : Int) + 1) = (k : Int)) = (f j = k) := by
            have e1 : xs.getD j 0 = xs[j] := by simp [hj']
            simp only [f, e1]
            rw [e1] at hx
            obtain ⟨z, hz⟩ := Int.eq_ofNat_of_zero_le hx
            rw [hz]
            have q : ((z : Int) % ((n : Int) + 1)) = ((z % (n + 1) : Nat) : Int) := by simp
            simp only [Int.toNat_natCast]
            rw [q]
            exact propext Int.ofNat_inj
          refine ⟨?_, fun _ => ?_⟩
          · have := mm xs[j]
            simp [hj', gEq, this, ef]
          · simp [hj])
        refine ⟨_, .inl ?_, some (oI k), rfl⟩
        have hl := hlen k
        have hl2 : (part k).length ≤ ws.length := by
          simp only [part, List.length_map]
          exact Nat.le_trans (List.length_filter_le _ _) (by simp)
        have hz2 : ((List.range k).flatMap part).length + (part k).length ≤ 16777216 := by
          have : k * ws.length ≤ 9 * 200 := Nat.mul_le_mul (by omega) h2
          omega
        have e0 : (((List.range ws.length).filter fun j => decide (f j = k)).map fun j => O.fr (D.int (ws.getD j 0))) = (part k).map fun x => O.fr (.int x) := by
          simp only [part, List.map_map]
          rfl
        rw [e0] at e
        rw [show (List.range (k + 1)).flatMap part = (List.range k).flatMap part ++ part k by simp [List.range_succ]]
        generalize (List.range k).flatMap part = acc at *
        simp [b__law_departing_1, hok, hz, LINE, e, hz2, Function.comp_def])
    refine ⟨(List.range (n + 1)).flatMap part, ?_, ?_⟩
    · have e1 : (List.range (n + 1)).flatMap part = ((List.range (n + 1)).flatMap fun t => (List.range ws.length).filter fun k => f k = t).map fun k => ws.getD k 0 := by
        rw [List.map_flatMap]
      rw [e1]
      exact perm_map_range ws _ (flatMap_mod_perm _ f (n + 1) fun k _ => Nat.mod_lt _ (by omega))
    · rw [show ((n + 1 : Nat) : Int) = (n : Int) + 1 by omega] at e
      have hmany' : (1 : Int) + (n : Int) = (n : Int) + 1 := by omega
      simp [fn__law_departing, fnP, b__law_departing, env0, m1, m2, m3, gEq, c1, c2, hok, hz, LINE, k3, hn, hmany', hok2, e]
/-! ### heads -/
def isHead (arr dep : List Int) (k : Nat) : Bool := decide (pos arr (dep.getD (k + 1) 0) < pos arr (dep.getD k 0))
def heads (arr dep : List Int) : List Int := ((List.range (dep.length - 1)).filter (isHead arr dep)).map fun k => dep.getD (k + 1) 0
theorem run_heads (arr dep : List Int) (hd : ∀ w ∈ dep, w ∈ arr) (hl : dep.length ≤ 1000) : fn_run_heads [oL arr, oL dep] = some (wL (heads arr dep), [oL arr, oL dep]) := by
  have hok : OKR dep.length = true := OKR_of (by omega) (by omega)
  have hok1 : OKR 1 = true := OKR_of (by omega) (by omega)
  have hm : ∀ k, k < dep.length → gIndex (oL arr) (.fr (.int (dep.getD k 0))) = some (.fr (.int (pos arr (dep.getD k 0)))) := fun k hk => by
    have : dep.getD k 0 = dep[k] := by simp [hk]
    rw [this]
    exact gIndex_int (hd _ (List.getElem_mem hk))
  obtain ⟨ρ', e, y3, rfl⟩ := forGo_rng1 (i := 3) (n := dep.length) (body := b_run_heads_1) (fun k ρ => ∃ y3 : Option O, ρ = [some (oL arr), some (oL dep), some (wL (((List.range k).filter (isHead arr dep)).map fun k => dep.getD (k + 1) 0)), y3])
    (ρ := [some (oL arr), some (oL dep), some (.list []), none]) ⟨none, rfl⟩ (by
      rintro k hk ρ ⟨y3, rfl⟩
      have h1 := hm k (by omega)
      have h2 := hm (k + 1) hk
      have g1 : dep[k]? = some (dep.getD k 0) := by simp [show k < dep.length by omega]
      have g2 : dep[k + 1]? = some (dep.getD (k + 1) 0) := by simp [hk]
      have hz : ((List.range k).filter (isHead arr dep)).length < 16777216 := Nat.lt_of_le_of_lt (List.length_filter_le _ _) (by simp; omega)
      refine ⟨_, .inl ?_, some (oI (k + 1)), rfl⟩
      rw [List.range_succ, List.filter_append, List.map_append]
      generalize (List.range k).filter (isHead arr dep) = acc at *
      by_cases c : pos arr (dep.getD (k + 1) 0) < pos arr (dep.getD k 0)
      · have c' : isHead arr dep k = true := decide_eq_true c
        generalize dep.getD k 0 = a at *
        generalize dep.getD (k + 1) 0 = b at *
        simp [b_run_heads_1, g1, g2, h1, h2, c, c', hz, LINE]
      · have c' : isHead arr dep k = false := decide_eq_false c
        generalize dep.getD k 0 = a at *
        generalize dep.getD (k + 1) 0 = b at *
        simp [b_run_heads_1, g1, g2, h1, h2, c, c', hz, LINE])
  simp [fn_run_heads, fnP, b_run_heads, env0, hok, hok1, e, heads]
theorem law_heads (arr dep : List Int) (hd : ∀ w ∈ dep, w ∈ arr) (hl : dep.length ≤ 1000) : fn__law_heads [oL arr, oL dep] = some (wL (heads arr dep), [oL arr, oL dep]) := by
  have hok : OKR dep.length = true := OKR_of (by omega) (by omega)
  have hok1 : OKR 1 = true := OKR_of (by omega) (by omega)
  have hz : dep.length ≤ 16777216 := by omega
  have hz1 : dep.length - 1 ≤ 16777216 := by omega
  have e1 := lcGo_map (i := 3) (fe := xIndex (xNm 0) (xNm 3)) (ρ := [some (oL arr), some (oL dep), none, none, none]) (fun w : Int => O.fr (D.int w)) (fun w => .fr (.int (pos arr w))) dep (by
    intro w hw
    have := gIndex_int (hd w hw)
    simp [this])
  have e2 := lcGo_rng1f (i := 4) (n := dep.length) (ft := tV (x2 gLt (x2 gIx (xNm 2) (xNm 4)) (x2 gIx (xNm 2) (x2 Tw.gSub (xNm 4) (xC (D.int 1)))))) (fe := x2 gIx (xNm 1) (xNm 4)) (ρ := [some (oL arr), some (oL dep), some (.fr (.list (dep.map fun w => .int (pos arr w)))), none, none]) (isHead arr dep) (fun k => .fr (.int (dep.getD (k + 1) 0))) (by
    intro k hk
    have g1 : dep[k]? = some (dep.getD k 0) := by simp [show k < dep.length by omega]
    have g2 : dep[k + 1]? = some (dep.getD (k + 1) 0) := by simp [hk]
    refine ⟨?_, fun _ => ?_⟩
    · simp only [isHead]
      generalize dep.getD k 0 = a at *
      generalize dep.getD (k + 1) 0 = b at *
      simp [g1, g2]
    · generalize dep.getD (k + 1) 0 = b at *
      simp [g2])
  have e3 : (((List.range (dep.length - 1)).filter (isHead arr dep)).map fun k => O.fr (D.int (dep.getD (k + 1) 0))) = (heads arr dep).map fun x => .fr (.int x) := by
    unfold heads
    rw [List.map_map]
    rfl
  rw [e3] at e2
  simp only [List.map_map, Function.comp_def] at e1 e2
  simp [fn__law_heads, fnP, b__law_heads, env0, hok, hok1, e1, e2, hz, hz1, LINE, Function.comp_def]
/-! ### one pass -/
def cls (ws ts : List Int) (t : Int) : List Int := ((ws.zip ts).filter fun p => decide (p.2 = t)).map (·.1)
def aft (ws ts : List Int) : List Int := (sortU ts).flatMap (cls ws ts)
theorem cls_len (ws ts : List Int) (t : Int) : (cls ws ts t).length ≤ ws.length := by
  unfold cls
  rw [List.length_map]
  exact Nat.le_trans (List.length_filter_le _ _) (by rw [List.length_zip]; omega)
theorem after_pass (ws ts : List Int) (h1 : ws.length ≤ 1000) (h2 : ts.length = ws.length) : fn_after_pass [oL ws, oL ts] = some (wL (aft ws ts), [oL ws, oL ts]) := by
  have hz : ts.length ≤ 4000 := by omega
  obtain ⟨ρ', e, don, y3, hdon, rfl⟩ := forGo_map (i := 3) (body := b_after_pass_1) (fun x : Int => O.fr (.int x)) (fun r ρ => ∃ (don : List Int) (y3 : Option O), don ++ r = sortU ts ∧ ρ = [some (oL ws), some (oL ts), some (wL (don.flatMap (cls ws ts))), y3, none, none]) (sortU ts)
    [some (oL ws), some (oL ts), some (.list []), none, none, none] ⟨[], none, rfl, rfl⟩ (by
      rintro t r ρ ⟨don, y3, hdon, rfl⟩
      have e := lcGo_gen (u := uT 2 (uCons (uN 4) (uCons (uN 5) uNil))) (ft := tV (x2 gEq (xNm 5) (xNm 3))) (fe := xNm 4) (ρ := [some (oL ws), some (oL ts), some (.bo (.list ((don.flatMap (cls ws ts)).map D.int))), some (oI t), none, none]) (fun p : Int × Int => O.fr (.tup [.int p.1, .int p.2])) (fun p => [(4, oI p.1), (5, oI p.2)]) (fun p => decide (p.2 = t)) (fun p => .fr (.int p.1)) (ws.zip ts) (by
        intro p _
        refine ⟨by simp, by simp [gEq], fun _ => by simp⟩)
      have e0 : (((ws.zip ts).filter fun p => decide (p.2 = t)).map fun p => O.fr (.int p.1)) = (cls ws ts t).map fun x => .fr (.int x) := by
        unfold cls
        rw [List.map_map]
        rfl
      rw [e0] at e
      have hl : don.length ≤ 1000 := by
        have := sortU_len ts
        rw [← hdon, List.length_append] at this
        omega
      have hc := cls_len ws ts t
      have hf := flatMap_len (cls ws ts) 1000 don fun x _ => Nat.le_trans (cls_len ws ts x) h1
      have hz2 : (don.flatMap (cls ws ts)).length + (cls ws ts t).length ≤ 16777216 := by
        have := Nat.mul_le_mul_right 1000 hl
        omega
      have hz3 : min ws.length ts.length ≤ 16777216 := by omega
      refine ⟨_, .inl ?_, don ++ [t], some (oI t), by simpa using hdon, rfl⟩
      rw [show (don ++ [t]).flatMap (cls ws ts) = don.flatMap (cls ws ts) ++ cls ws ts t by simp]
      generalize don.flatMap (cls ws ts) = acc at *
      simp [b_after_pass_1, e, hz2, hz3, LINE])
  rw [List.append_nil] at hdon
  subst hdon
  simp [fn_after_pass, fnP, b_after_pass, env0, hz, e, aft, Function.comp_def]
theorem aft_eq (ws ts : List Int) (h2 : ts.length = ws.length) : aft ws ts = ((List.range ws.length).mergeSort (lexLe (fun k => ts.getD k 0) fun k => (k : Int))).map fun k => ws.getD k 0 := by
  rw [sort_class (fun k => ts.getD k 0) ts fun k hk => by simp [show k < ts.length by omega], List.map_flatMap]
  unfold aft
  rw [List.flatMap_def, List.flatMap_def]
  refine congrArg _ (List.map_congr_left fun t _ => ?_)
  unfold cls
  have e : ws.zip ts = (List.range ws.length).map fun k => (ws.getD k 0, ts.getD k 0) := by
    apply List.ext_getElem
    · simp; omega
    · intro i h1 h2
      rw [List.length_zip] at h1
      have a1 : i < ws.length := by omega
      have a2 : i < ts.length := by omega
      simp [a1, a2]
  rw [e, List.filter_map, List.map_map]
  rfl
theorem law_after (ws ts : List Int) (h1 : ws.length ≤ 1000) (h2 : ts.length = ws.length) : fn__law_after [oL ws, oL ts] = some (wL (aft ws ts), [oL ws, oL ts]) := by
  have hok : OKR ws.length = true := OKR_of (by omega) (by omega)
  have hz : ws.length ≤ 16777216 := by omega
  have e1 := lcGo_rng (i := 3) (n := ws.length) (fe := xL Tw.gTup (aCons (x2 gIx (xNm 1) (xNm 3)) (aCons (xNm 3) aNil))) (ρ := [some (oL ws), some (oL ts), none, none, none, none]) (fun k => .fr (.tup [.int (ts.getD k 0), .int (k : Nat)])) (by
    intro k hk
    have : k < ts.length := by omega
    simp [this, mkTup, O.frs, LINE])
  have e2 := gSorted_ii (fun k : Nat => ts.getD k 0) (fun k => (k : Int)) (List.range ws.length)
  obtain ⟨so, hsd⟩ : ∃ so, so = (List.range ws.length).mergeSort (lexLe (fun k => ts.getD k 0) fun k => (k : Int)) := ⟨_, rfl⟩
  have hso : so.length = ws.length := by simp [hsd]
  have hmem : ∀ k ∈ so, k < ws.length := fun k hk => by
    rw [hsd] at hk
    exact List.mem_range.mp ((List.mergeSort_perm _ _).mem_iff.mp hk)
  have e3 := lcGo_gen (u := uT 2 (uCons (uN 4) (uCons (uN 5) uNil))) (ft := tYesF) (fe := x2 gIx (xNm 0) (xNm 5)) (ρ := [some (oL ws), some (oL ts), some (.fr (.list (so.map fun k => .tup [.int (ts.getD k 0), .int (k : Nat)]))), none, none, none]) (fun k : Nat => O.fr (.tup [.int (ts.getD k 0), .int (k : Nat)])) (fun k => [(4, oI (ts.getD k 0)), (5, oI k)]) (fun _ => true) (fun k => .fr (.int (ws.getD k 0))) so (by
    intro k hk
    have := hmem k hk
    refine ⟨by simp, rfl, fun _ => by simp [this]⟩)
  rw [List.filter_eq_self.mpr fun _ _ => rfl] at e3
  have hz2 : so.length ≤ 16777216 := by omega
  rw [aft_eq ws ts h2, ← hsd]
  rw [← hsd] at e2
  simp only [List.getD_eq_getElem?_getD] at e1 e2 e3 ⊢
  simp [fn__law_after, fnP, b__law_after, env0, hok, hz, hz2, LINE, e1, e2, e3, Function.comp_def]
theorem law_after_b (ws ts : List Int) (h1 : ws.length ≤ 1000) (h2 : ts.length = ws.length) : fn__law_after [oL ws, .bo (.list (ts.map D.int))] = some (wL (aft ws ts), [oL ws, .bo (.list (ts.map D.int))]) := by
  have hok : OKR ws.length = true := OKR_of (by omega) (by omega)
  have hz : ws.length ≤ 16777216 := by omega
  have e1 := lcGo_rng (i := 3) (n := ws.length) (fe := xL Tw.gTup (aCons (x2 gIx (xNm 1) (xNm 3)) (aCons (xNm 3) aNil))) (ρ := [some (oL ws), some (.bo (.list (ts.map D.int))), none, none, none, none]) (fun k => .fr (.tup [.int (ts.getD k 0), .int (k : Nat)])) (by
    intro k hk
    have : k < ts.length := by omega
    simp [this, mkTup, O.frs, LINE])
  have e2 := gSorted_ii (fun k : Nat => ts.getD k 0) (fun k => (k : Int)) (List.range ws.length)
  obtain ⟨so, hsd⟩ : ∃ so, so = (List.range ws.length).mergeSort (lexLe (fun k => ts.getD k 0) fun k => (k : Int)) := ⟨_, rfl⟩
  have hso : so.length = ws.length := by simp [hsd]
  have hmem : ∀ k ∈ so, k < ws.length := fun k hk => by
    rw [hsd] at hk
    exact List.mem_range.mp ((List.mergeSort_perm _ _).mem_iff.mp hk)
  have e3 := lcGo_gen (u := uT 2 (uCons (uN 4) (uCons (uN 5) uNil))) (ft := tYesF) (fe := x2 gIx (xNm 0) (xNm 5)) (ρ := [some (oL ws), some (.bo (.list (ts.map D.int))), some (.fr (.list (so.map fun k => .tup [.int (ts.getD k 0), .int (k : Nat)]))), none, none, none]) (fun k : Nat => O.fr (.tup [.int (ts.getD k 0), .int (k : Nat)])) (fun k => [(4, oI (ts.getD k 0)), (5, oI k)]) (fun _ => true) (fun k => .fr (.int (ws.getD k 0))) so (by
    intro k hk
    have := hmem k hk
    refine ⟨by simp, rfl, fun _ => by simp [this]⟩)
  rw [List.filter_eq_self.mpr fun _ _ => rfl] at e3
  have hz2 : so.length ≤ 16777216 := by omega
  rw [aft_eq ws ts h2, ← hsd]
  rw [← hsd] at e2
  simp only [List.getD_eq_getElem?_getD] at e1 e2 e3 ⊢
  simp [fn__law_after, fnP, b__law_after, env0, hok, hz, hz2, LINE, e1, e2, e3, Function.comp_def]
/-! ### powers, digits -/
theorem log_pow {n : Nat} (h : n ≤ 2 ^ 80) (i : Nat) : ((n : Int) ^ i).natAbs.log2 ≤ 80 * i := by
  have e : ((n : Int) ^ i).natAbs = n ^ i := by rw [Int.natAbs_pow]; rfl
  rw [e]
  refine log2_le (Nat.lt_of_le_of_lt (Nat.pow_le_pow_left h i) ?_)
  rw [← Nat.pow_mul]
  exact Nat.pow_lt_pow_right (by decide) (by omega)
theorem power (k p : Nat) (hk : k ≤ 2 ^ 80) (hp : p ≤ 1000) : fn_power [oI k, oI p] = some (oI ((k : Int) ^ p), [oI k, oI p]) := by
  have hok : OKR p = true := OKR_of (by omega) (by omega)
  have hk2 := log_pow hk 1
  rw [Int.pow_succ, Int.pow_zero, Int.one_mul] at hk2
  obtain ⟨ρ', e, y3, rfl⟩ := forGo_rng (i := 3) (n := p) (body := b_power_1) (fun i ρ => ∃ y3 : Option O, ρ = [some (oI k), some (oI p), some (oI ((k : Int) ^ i)), y3])
    (ρ := [some (oI k), some (oI p), some (oI 1), none]) ⟨none, rfl⟩ (by
      rintro i hi ρ ⟨y3, rfl⟩
      have hb : bitsOk ((k : Int) ^ i) k = true := bitsOk_log (by have := log_pow hk i; omega)
      refine ⟨_, .inl ?_, some (oI i), rfl⟩
      simp [b_power_1, hb, Int.pow_succ])
  simp [fn_power, fnP, b_power, env0, hok, e]
theorem law_enough (c k p : Nat) (hk : k ≤ 2 ^ 80) (hp : p ≤ 1000) : fn__law_enough [oI c, oI k, oI p] = some (.fr (.bool (decide ((c : Int) < (k : Int) ^ p))), [oI c, oI k, oI p]) := by
  have hok : OKR p = true := OKR_of (by omega) (by omega)
  have hk2 := log_pow hk 1
  rw [Int.pow_succ, Int.pow_zero, Int.one_mul] at hk2
  obtain ⟨ρ', e, y4, rfl⟩ := forGo_rng (i := 4) (n := p) (body := b__law_enough_1) (fun i ρ => ∃ y4 : Option O, ρ = [some (oI c), some (oI k), some (oI p), some (oI ((k : Int) ^ i)), y4])
    (ρ := [some (oI c), some (oI k), some (oI p), some (oI 1), none]) ⟨none, rfl⟩ (by
      rintro i hi ρ ⟨y4, rfl⟩
      have hb : bitsOk ((k : Int) ^ i) k = true := bitsOk_log (by have := log_pow hk i; omega)
      refine ⟨_, .inl ?_, some (oI i), rfl⟩
      simp [b__law_enough_1, hb, Int.pow_succ])
  simp [fn__law_enough, fnP, b__law_enough, env0, hok, e]
/-- divided t times -/
def dv (k : Int) : Nat → Int → Int
  | 0, n => n
  | t + 1, n => dv k t n / k
theorem digit (n : Int) (k t : Nat) (hk0 : 0 < k) (hk : k ≤ 2 ^ 80) (ht : t ≤ 1000) : fn_digit [oI n, oI k, oI t] = some (oI (dv k t n % k), [oI n, oI k, oI t]) := by
  have hok : OKR t = true := OKR_of (by omega) (by omega)
  have hd : ∀ x, divOk x k = true := fun x => divOk_of (by omega) (by omega)
  have hm : ∀ x, modOk x k = true := fun x => modOk_of (by omega)
  obtain ⟨ρ', e, y3, rfl⟩ := forGo_rng (i := 3) (n := t) (body := b_digit_1) (fun i ρ => ∃ y3 : Option O, ρ = [some (oI (dv k i n)), some (oI k), some (oI t), y3])
    (ρ := [some (oI n), some (oI k), some (oI t), none]) ⟨none, rfl⟩ (by
      rintro i hi ρ ⟨y3, rfl⟩
      refine ⟨_, .inl ?_, some (oI i), rfl⟩
      simp [b_digit_1, hd, dv])
  simp [fn_digit, fnP, b_digit, env0, hok, e, hm, gInt]
/-! ### numbers of runs -/
def cnt (hs ws : List Int) : Int := ((ws.filter fun w => decide (w ∈ hs)).length : Nat)
def num (hs dep : List Int) (w : Int) : Int := cnt hs (dep.take (pos dep w + 1))
theorem num_mid {hs don r : List Int} {w : Int} (h : w ∉ don) : num hs (don ++ w :: r) w = cnt hs (don ++ [w]) := by
  unfold num
  rw [pos_mid h, show don ++ w :: r = (don ++ [w]) ++ r by simp, List.take_left' (by simp)]
theorem cnt_snoc (hs don : List Int) (w : Int) : cnt hs (don ++ [w]) = if w ∈ hs then cnt hs don + 1 else cnt hs don := by
  unfold cnt
  rw [List.filter_append]
  by_cases h : w ∈ hs <;> simp [h]
theorem run_numbers (arr dep : List Int) (hd : ∀ w ∈ dep, w ∈ arr) (hl : dep.length ≤ 1000) (hn : dep.Nodup) : fn_run_numbers [oL arr, oL dep] = some (.dict (kvI (num (heads arr dep) dep) dep), [oL arr, oL dep]) := by
  have e0 := run_heads arr dep hd hl
  generalize heads arr dep = hs at *
  obtain ⟨ρ', e, don, y5, hdon, rfl⟩ := forGo_map (i := 5) (body := b_run_numbers_1) (fun w : Int => O.fr (.int w)) (fun r ρ => ∃ (don : List Int) (y5 : Option O), don ++ r = dep ∧ ρ = [some (oL arr), some (oL dep), some (oL hs), some (.dict (kvI (num hs dep) don)), some (oI (cnt hs don)), y5]) dep
    [some (oL arr), some (oL dep), some (oL hs), some (.dict []), some (oI 0), none] ⟨[], none, rfl, rfl⟩ (by
      rintro w r ρ ⟨don, y5, hdon, rfl⟩
      have hw : w ∉ don := fun hw => by
        rw [← hdon] at hn
        exact (List.nodup_append.mp hn).2.2 w hw w List.mem_cons_self rfl
      have hz : don.length < 16777216 := by
        rw [← hdon, List.length_append] at hl
        omega
      have hp := put_kvI_new (num hs dep) don hw
      have hnum : num hs dep w = cnt hs (don ++ [w]) := by rw [← hdon]; exact num_mid hw
      rw [hnum, cnt_snoc] at hp
      refine ⟨_, .inl ?_, don ++ [w], some (oI w), by simpa using hdon, rfl⟩
      rw [cnt_snoc]
      by_cases c : w ∈ hs
      · rw [if_pos c] at hp ⊢
        simp [b_run_numbers_1, gIn_int, c, hz, LINE, hp]
      · rw [if_neg c] at hp ⊢
        simp [b_run_numbers_1, gIn_int, c, hz, LINE, hp])
  rw [List.append_nil] at hdon
  subst hdon
  simp [fn_run_numbers, fnP, b_run_numbers, env0, e0, e, Function.comp_def]
/-! ### lists of passes -/
def row (nm : Int → Int) (k : Int) (t : Nat) (train : List Int) : List Int := train.map fun w => dv k t (nm w) % k
def trn (nm : Int → Int) (k : Int) (arr : List Int) : Nat → List Int
  | 0 => arr
  | t + 1 => aft (trn nm k arr t) (row nm k t (trn nm k arr t))
def rows (nm : Int → Int) (k : Int) (arr : List Int) (p : Nat) : List (List Int) := (List.range p).map fun t => row nm k t (trn nm k arr t)
theorem aft_perm (ws ts : List Int) (h : ts.length = ws.length) : (aft ws ts).Perm ws := by
  rw [aft_eq ws ts h]
  exact perm_map_range ws _ (List.mergeSort_perm _ _)
theorem trn_perm (nm : Int → Int) (k : Int) (arr : List Int) : ∀ t, (trn nm k arr t).Perm arr
  | 0 => List.Perm.refl _
  | t + 1 => (aft_perm _ _ (by simp [row])).trans (trn_perm nm k arr t)
abbrev wLL (xss : List (List Int)) : O := .list (xss.map fun xs => .fr (.list (xs.map D.int)))
theorem in_passes (arr dep : List Int) (k p : Nat) (hp : dep.Perm arr) (hn : arr.Nodup) (hl : arr.length ≤ 1000) (hk0 : 0 < k) (hk : k ≤ 2 ^ 80) (hpp : p ≤ 1000) :
    fn_in_passes [oL arr, oL dep, oI k, oI p] = some (if (k : Int) ^ p ≤ (heads arr dep).length then .tup [.fr (.str "runs"), wL (heads arr dep)] else .tup [.fr (.str "tracks"), wLL (rows (num (heads arr dep) dep) k arr p)], [oL arr, oL dep, oI k, oI p]) := by
  have hd : ∀ w ∈ dep, w ∈ arr := fun w hw => hp.mem_iff.mp hw
  have hl2 : dep.length ≤ 1000 := by rw [hp.length_eq]; exact hl
  have hok : OKR p = true := OKR_of (by omega) (by omega)
  have e0 := run_heads arr dep hd hl2
  have e1 := power k p hk hpp
  have e2 := run_numbers arr dep hd hl2 (hp.nodup_iff.mpr hn)
  by_cases c : (k : Int) ^ p ≤ (heads arr dep).length
  · rw [if_pos c]
    simp [fn_in_passes, fnP, b_in_passes, env0, e0, e1, c, mkTup, O.frs, LINE]
  · rw [if_neg c]
    generalize hnm : num (heads arr dep) dep = nm at *
    generalize heads arr dep = hs at *
    obtain ⟨ρ', e, y8, y9, rfl⟩ := forGo_rng (i := 8) (n := p) (body := b_in_passes_1) (fun t ρ => ∃ y8 y9 : Option O, ρ = [some (oL arr), some (oL dep), some (oI k), some (oI p), some (wL hs), some (.fr (.dict (kvI nm dep))), some (oL (trn nm k arr t)), some (wLL (rows nm k arr t)), y8, y9, none])
      (ρ := [some (oL arr), some (oL dep), some (oI k), some (oI p), some (wL hs), some (.fr (.dict (kvI nm dep))), some (oL arr), some (.list []), none, none, none]) ⟨none, none, rfl⟩ (by
        rintro t ht ρ ⟨y8, y9, rfl⟩
        have pt := trn_perm nm k arr t
        have hlt : (trn nm k arr t).length ≤ 1000 := by rw [pt.length_eq]; exact hl
        have ec := lcGo_map (i := 10) (fe := xL (gCall fn_digit) (aCons (x2 gIx (xNm 5) (xNm 10)) (aCons (xNm 2) (aCons (xNm 8) aNil)))) (ρ := [some (oL arr), some (oL dep), some (oI k), some (oI p), some (.bo (.list (hs.map D.int))), some (.fr (.dict (kvI nm dep))), some (oL (trn nm k arr t)), some (.bo (.list ((rows nm k arr t).map fun xs => .list (xs.map D.int)))), some (oI t), y9.map O.vw, none]) (fun w : Int => O.fr (D.int w)) (fun w => .fr (.int (dv k t (nm w) % k))) (trn nm k arr t) (by
          intro w hw
          have hwd : w ∈ dep := hp.mem_iff.mpr (pt.mem_iff.mp hw)
          have g := gIx_kvI nm hwd
          have dg := digit (nm w) k t hk0 hk (by omega)
          simp [g, dg])
        have ea := after_pass (trn nm k arr t) (row nm k t (trn nm k arr t)) hlt (by simp [row])
        have e3 : ((trn nm k arr t).map fun w => O.fr (.int (dv k t (nm w) % k))) = (row nm k t (trn nm k arr t)).map fun x => .fr (.int x) := by
          unfold row
          rw [List.map_map]
          rfl
        rw [e3] at ec
        refine ⟨_, .inl ?_, some (oI t), some (oL (row nm k t (trn nm k arr t))), rfl⟩
        rw [show rows nm k arr (t + 1) = rows nm k arr t ++ [row nm k t (trn nm k arr t)] by simp [rows, List.range_succ], show trn nm k arr (t + 1) = aft (trn nm k arr t) (row nm k t (trn nm k arr t)) from rfl]
        have hz : (rows nm k arr t).length < 16777216 := by simp [rows]; omega
        generalize row nm k t (trn nm k arr t) = rw0 at *
        have hz2 : (trn nm k arr t).length ≤ 16777216 := by omega
        generalize trn nm k arr t = tr at *
        generalize rows nm k arr t = rs at *
        simp only [List.map_map, Function.comp_def] at ec
        simp [b_in_passes_1, ec, ea, hz, hz2, LINE, Function.comp_def])
    simp [fn_in_passes, fnP, b_in_passes, env0, e0, e1, e2, c, mkTup, O.frs, LINE, hok, e, gList, Function.comp_def]
theorem law_lists (arr dep : List Int) (k p : Nat) (hp : dep.Perm arr) (hn : arr.Nodup) (hl : arr.length ≤ 1000) (hk0 : 0 < k) (hk : k ≤ 2 ^ 80) (hpp : p ≤ 1000) :
    fn__law_lists [oL arr, oL dep, oI k, oI p] = some (wLL (rows (num (heads arr dep) dep) k arr p), [oL arr, oL dep, oI k, oI p]) := by
  have hd : ∀ w ∈ dep, w ∈ arr := fun w hw => hp.mem_iff.mp hw
  have hl2 : dep.length ≤ 1000 := by rw [hp.length_eq]; exact hl
  have hn2 : dep.Nodup := hp.nodup_iff.mpr hn
  have hok : OKR p = true := OKR_of (by omega) (by omega)
  have e0 := law_heads arr dep hd hl2
  have hdk : ∀ x, divOk x k = true := fun x => divOk_of (by omega) (by omega)
  have hmk : ∀ x, modOk x k = true := fun x => modOk_of (by omega)
  obtain ⟨nm, hnm⟩ : ∃ nm, nm = num (heads arr dep) dep := ⟨_, rfl⟩
  rw [← hnm]
  generalize heads arr dep = hs at *
  obtain ⟨ρ1, e1, don, y7, hdon, rfl⟩ := forGo_map (i := 7) (body := b__law_lists_1) (fun w : Int => O.fr (.int w)) (fun r ρ => ∃ (don : List Int) (y7 : Option O), don ++ r = dep ∧ ρ = [some (oL arr), some (oL dep), some (oI k), some (oI p), some (oL hs), some (.dict (kvI nm don)), some (oI (cnt hs don)), y7, none, none, none]) dep
    [some (oL arr), some (oL dep), some (oI k), some (oI p), some (oL hs), some (.dict []), some (oI 0), none, none, none, none] ⟨[], none, rfl, rfl⟩ (by
      rintro w r ρ ⟨don, y7, hdon, rfl⟩
      have hw : w ∉ don := fun hw => by
        rw [← hdon] at hn2
        exact (List.nodup_append.mp hn2).2.2 w hw w List.mem_cons_self rfl
      have hz : don.length < 16777216 := by
        rw [← hdon, List.length_append] at hl2
        omega
      have hpw := put_kvI_new nm don hw
      have hnum : nm w = cnt hs (don ++ [w]) := by rw [hnm, ← hdon]; exact num_mid hw
      rw [hnum, cnt_snoc] at hpw
      refine ⟨_, .inl ?_, don ++ [w], some (oI w), by simpa using hdon, rfl⟩
      rw [cnt_snoc]
      by_cases c : w ∈ hs
      · rw [if_pos c] at hpw ⊢
        simp [b__law_lists_1, gIn_int, c, hz, LINE, hpw]
      · rw [if_neg c] at hpw ⊢
        simp [b__law_lists_1, gIn_int, c, hz, LINE, hpw])
  rw [List.append_nil] at hdon
  subst hdon
  obtain ⟨ρ2, e2, y7', y10, rfl⟩ := forGo_rng (i := 10) (n := p) (body := b__law_lists_3) (fun t ρ => ∃ y7 y10 : Option O, ρ = [some (oL arr), some (oL don), some (oI k), some (oI p), some (oL hs), some (.dict (kvI (fun w => dv k t (nm w)) don)), some (oI (cnt hs don)), y7, some (oL (trn nm k arr t)), some (wLL (rows nm k arr t)), y10])
    (ρ := [some (oL arr), some (oL don), some (oI k), some (oI p), some (oL hs), some (.dict (kvI nm don)), some (oI (cnt hs don)), y7, some (oL arr), some (.list []), none]) ⟨y7, none, rfl⟩ (by
      rintro t ht ρ ⟨y7, y10, rfl⟩
      have pt := trn_perm nm k arr t
      have hlt : (trn nm k arr t).length ≤ 1000 := by rw [pt.length_eq]; exact hl
      have ec := lcGo_map (i := 7) (fe := x2 gMod (x2 gIx (xNm 5) (xNm 7)) (xNm 2)) (ρ := [some (oL arr), some (oL don), some (oI k), some (oI p), some (oL hs), some (.bo (.dict (kvI (fun w => dv k t (nm w)) don))), some (oI (cnt hs don)), none, some (oL (trn nm k arr t)), some (.bo (.list ((rows nm k arr t).map fun xs => .list (xs.map D.int)))), some (oI t)]) (fun w : Int => O.fr (D.int w)) (fun w => .fr (.int (dv k t (nm w) % k))) (trn nm k arr t) (by
        intro w hw
        have hwd : w ∈ don := hp.mem_iff.mpr (pt.mem_iff.mp hw)
        have g := gIx_kvIb (fun w => dv k t (nm w)) hwd
        simp [g, hmk])
      have ea := law_after_b (trn nm k arr t) (row nm k t (trn nm k arr t)) hlt (by simp [row])
      have e3 : ((trn nm k arr t).map fun w => O.fr (.int (dv k t (nm w) % k))) = (row nm k t (trn nm k arr t)).map fun x => .fr (.int x) := by
        unfold row
        rw [List.map_map]
        rfl
      rw [e3] at ec
      have hrl : (rows nm k arr t).length = t := by simp [rows]
      have hgt : gIx [.bo (.list ((rows nm k arr t ++ [row nm k t (trn nm k arr t)]).map fun xs => .list (xs.map D.int))), .fr (.int t)] = some (.bo (.list ((row nm k t (trn nm k arr t)).map D.int))) := by
        rw [gIx_bol, atI_cast, List.getElem?_map, List.getElem?_append_right (by omega), hrl]
        simp
      obtain ⟨ρ', e, y7', hρ'⟩ := forGo_map (i := 7) (body := b__law_lists_2) (fun w : Int => O.fr (.int w)) (fun r ρ => ∃ (y7 : Option O), ρ = [some (oL arr), some (oL don), some (oI k), some (oI p), some (oL hs), some (.dict (kvI (fun w => if w ∈ r then dv k t (nm w) else dv k (t + 1) (nm w)) don)), some (oI (cnt hs don)), y7, some (oL (trn nm k arr (t + 1))), some (wLL (rows nm k arr (t + 1))), some (oI t)] ∧ (∃ l, l ++ r = don)) don
        [some (oL arr), some (oL don), some (oI k), some (oI p), some (oL hs), some (.dict (kvI (fun w => dv k t (nm w)) don)), some (oI (cnt hs don)), y7, some (oL (trn nm k arr (t + 1))), some (wLL (rows nm k arr (t + 1))), some (oI t)] ⟨y7, by rw [kvI_congr (g := fun w => if w ∈ don then dv k t (nm w) else dv k (t + 1) (nm w)) fun w hw => by simp [hw]], [], rfl⟩ (by
          rintro w r ρ ⟨y7, rfl, l, hlr⟩
          have hw : w ∈ don := by rw [← hlr]; simp
          have hwr : w ∉ r := fun h => by
            rw [← hlr] at hn2
            exact (List.nodup_cons.mp (List.nodup_append.mp hn2).2.1).1 h
          have g := gIx_kvIb (fun x => if x ∈ w :: r then dv k t (nm x) else dv k (t + 1) (nm x)) hw
          rw [if_pos List.mem_cons_self] at g
          have pw := (put_kvI_old (fun x => if x ∈ w :: r then dv k t (nm x) else dv k (t + 1) (nm x)) don hw (dv k t (nm w) / k)).trans (kvI_congr (g := fun x => if x ∈ r then dv k t (nm x) else dv k (t + 1) (nm x)) (fun x hx => by
            by_cases e : x = w
            · subst e
              simp [hwr, dv]
            · simp [e]))
          have hz : don.length < 16777216 := by omega
          refine ⟨_, .inl ?_, some (oI w), rfl, l ++ [w], by simpa using hlr⟩
          generalize (fun x => if x ∈ w :: r then dv k t (nm x) else dv k (t + 1) (nm x)) = ff at *
          simp [b__law_lists_2, g, hdk, pw, hz, LINE])
      obtain ⟨rfl, _⟩ := hρ'
      simp only [List.not_mem_nil, if_false] at e
      refine ⟨_, .inl ?_, y7', some (oI t), rfl⟩
      rw [show rows nm k arr (t + 1) = rows nm k arr t ++ [row nm k t (trn nm k arr t)] by simp [rows, List.range_succ], show trn nm k arr (t + 1) = aft (trn nm k arr t) (row nm k t (trn nm k arr t)) from rfl] at e ⊢
      have hz : (rows nm k arr t).length < 16777216 := by omega
      generalize row nm k t (trn nm k arr t) = rw0 at *
      have hz2 : (trn nm k arr t).length ≤ 16777216 := by omega
      generalize trn nm k arr t = tr at *
      generalize rows nm k arr t = rs at *
      simp only [List.map_map, Function.comp_def, List.map_append, List.map_cons, List.map_nil] at ec hgt e
      simp [b__law_lists_3, ec, ea, hz, hz2, LINE, hgt, Function.comp_def]
      rw [show O.list (List.map (fun xs => O.fr (D.list (List.map D.int xs))) rs ++ [O.fr (D.list (List.map D.int rw0))]) = wLL (rs ++ [rw0]) by simp]
      exact e)
  simp [fn__law_lists, fnP, b__law_lists, env0, e0, e1, e2, LINE, hok, gList, Function.comp_def]
/-! ### the least number of passes -/
theorem least_ex (k c : Nat) (h : c < k ^ 7) : ∃ m ≤ 7, (∀ p < m, (k : Int) ^ p ≤ c) ∧ ∀ p, p = m → (c : Int) < (k : Int) ^ p := by
  have go : ∀ n, (∀ p < n, (k : Int) ^ p ≤ c) ∨ ∃ m < n, (∀ p < m, (k : Int) ^ p ≤ c) ∧ (c : Int) < (k : Int) ^ m := fun n => by
    induction n with
    | zero => exact .inl fun p hp => by omega
    | succ n ih =>
      rcases ih with ih | ⟨m, h1, h2, h3⟩
      · by_cases q : (k : Int) ^ n ≤ c
        · refine .inl fun p hp => ?_
          by_cases e : p = n
          · rw [e]; exact q
          · exact ih p (by omega)
        · exact .inr ⟨n, by omega, ih, by omega⟩
      · exact .inr ⟨m, by omega, h2, h3⟩
  rcases go 8 with g | ⟨m, h1, h2, h3⟩
  · have := g 7 (by decide)
    have e : ((k : Int) ^ 7) = ((k ^ 7 : Nat) : Int) := by simp
    rw [e] at this
    omega
  · exact ⟨m, by omega, h2, fun p hp => by rw [hp]; exact h3⟩
theorem pow_mono {k : Nat} (hk : 1 ≤ k) {p q : Nat} (h : p ≤ q) : (k : Int) ^ p ≤ (k : Int) ^ q := by
  have := Nat.pow_le_pow_right hk h
  have e1 : ((k : Int) ^ p) = ((k ^ p : Nat) : Int) := by simp
  have e2 : ((k : Int) ^ q) = ((k ^ q : Nat) : Int) := by simp
  rw [e1, e2]
  omega
theorem least_passes (arr dep : List Int) (k m : Nat) (hd : ∀ w ∈ dep, w ∈ arr) (hl : dep.length ≤ 1000) (hk : k ≤ 2 ^ 80) (hm : m ≤ 7) (h1 : ∀ p < m, (k : Int) ^ p ≤ (heads arr dep).length) (h2 : ((heads arr dep).length : Int) < (k : Int) ^ m) :
    fn_least_passes [oL arr, oL dep, oI k] = some (oI m, [oL arr, oL dep, oI k]) := by
  have e0 := run_heads arr dep hd hl
  generalize heads arr dep = hs at *
  have e := sWhile_of (n := m + 1) (whGo_steps (c := liftT (tV (x2 gLe (xL (gCall fn_power) (aCons (xNm 2) (aCons (xNm 4) aNil))) (xNm 3)))) (body := b_least_passes_1) (fun p => [some (oL arr), some (oL dep), some (oI k), some (oI hs.length), some (oI p)]) m (by
    intro p hp
    have pw := power k p hk (by omega)
    have c := h1 p hp
    exact ⟨by simp [pw, c], by simp [b_least_passes_1]⟩) (by
    have pw := power k m hk (by omega)
    have c : ¬ (k : Int) ^ m ≤ hs.length := by omega
    simp [pw, c]) m 0 (by omega))
  simp only [Int.ofNat_zero] at e
  simp [fn_least_passes, fnP, b_least_passes, env0, e0, e]
/-! ### the same -/
theorem same_loop (rec : Fun1) (a b : O) (n : Nat) (ha : a.vw = a) (hb : b.vw = b) (la : a.lent = true) (lb : b.lent = true) (h : ∀ k < n, ∃ p q, gIx [a, .fr (.int (k : Nat))] = some p ∧ gIx [b, .fr (.int (k : Nat))] = some q ∧ p.lent = true ∧ q.lent = true ∧ rec [p, q] = some (.fr (.bool true), [p, q])) :
    ∃ y2, forGo (uN 2) (b__law_same_1 rec) ((rng 0 (n : Int)).map fun i => O.fr (D.int i)) [some a, some b, none] = some (.nx [some a, some b, y2]) := by
  obtain ⟨ρ', e, y2, rfl⟩ := forGo_rng (i := 2) (n := n) (body := b__law_same_1 rec) (fun k ρ => ∃ y2 : Option O, ρ = [some a, some b, y2]) (ρ := [some a, some b, none]) ⟨none, rfl⟩ (by
    rintro k hk ρ ⟨y2, rfl⟩
    obtain ⟨p, q, e1, e2, lp, lq, e3⟩ := h k hk
    refine ⟨_, .inl ?_, some (oI k), rfl⟩
    simp [b__law_same_1, ha, hb, e1, e2, lp, lq, e3])
  exact ⟨y2, e⟩
theorem same : ∀ (n : Nat) (d : D) (a b : O), d.sm n = true → n ≤ 30 → a.isV d → b.isV d → fn__law_same (n + 1) [a, b] = some (.fr (.bool true), [a, b])
  | n, d, a, b, hs, hn, ha, hb => by
    have va := isV_vw ha
    have vb := isV_vw hb
    have la := isV_lent ha
    have lb := isV_lent hb
    have na := fun (z : d.noObj = true) T => gIs_V ha z T
    have nb := fun (z : d.noObj = true) T => gIs_V hb z T
    have ia := fun z => gIsN_V ha z
    have ib := fun z => gIsN_V hb z
    have unf : ∀ n, fn__law_same (n + 1) = fnP 3 2 (b__law_same (fn__law_same n)) := fun _ => rfl
    cases d with
    | none =>
      rcases ha with rfl | rfl <;> rcases hb with rfl | rfl <;> rw [unf] <;> simp [fnP, b__law_same, env0, gIs, D.is, D.noObj, gIsN, D.isN, gEq, mkbo]
    | bool x =>
      rcases ha with rfl | rfl <;> rcases hb with rfl | rfl <;> rw [unf] <;> simp [fnP, b__law_same, env0, gIs, D.is, D.noObj, gIsN, D.isN, gEq, mkbo]
    | int x =>
      rcases ha with rfl | rfl <;> rcases hb with rfl | rfl <;> rw [unf] <;> simp [fnP, b__law_same, env0, gIs, D.is, D.noObj, gIsN, D.isN, gEq, mkbo]
    | str x =>
      rcases ha with rfl | rfl <;> rcases hb with rfl | rfl <;> rw [unf] <;> simp [fnP, b__law_same, env0, gIs, D.is, D.noObj, gIsN, D.isN, gEq, mkbo]
    | list xs =>
      simp only [D.sm, Bool.and_eq_true, decide_eq_true_eq] at hs
      obtain ⟨⟨h0, h1⟩, h2⟩ := hs
      obtain ⟨m, rfl⟩ : ∃ m, n = m + 1 := ⟨n - 1, by omega⟩
      have hok : OKR xs.length = true := OKR_of (by omega) (by omega)
      have ga := gLen_VL ha
      have gb := gLen_VL hb
      obtain ⟨y2, e⟩ := same_loop (fn__law_same (m + 1)) a b xs.length va vb la lb (by
        intro k hk
        obtain ⟨p, e1, v1⟩ := gIx_V ha (List.getElem?_eq_getElem hk)
        obtain ⟨q, e2, v2⟩ := gIx_V hb (List.getElem?_eq_getElem hk)
        have hx : D.sm xs[k] m = true := by
          rw [sms_eq, List.all_eq_true] at h2
          exact h2 _ (List.getElem_mem hk)
        exact ⟨p, q, e1, e2, isV_lent v1, isV_lent v2, same m _ p q hx (by omega) v1 v2⟩)
      have na := na rfl
      have nb := nb rfl
      rw [unf]
      simp [fnP, b__law_same, env0, va, vb, la, lb, na, nb, ia, ib, D.is, ga, gb, gNe, gIsN, D.isN, hok, e]
    | tup xs =>
      simp only [D.sm, Bool.and_eq_true, decide_eq_true_eq] at hs
      obtain ⟨⟨h0, h1⟩, h2⟩ := hs
      obtain ⟨m, rfl⟩ : ∃ m, n = m + 1 := ⟨n - 1, by omega⟩
      have hok : OKR xs.length = true := OKR_of (by omega) (by omega)
      have ga := gLen_VT ha
      have gb := gLen_VT hb
      obtain ⟨y2, e⟩ := same_loop (fn__law_same (m + 1)) a b xs.length va vb la lb (by
        intro k hk
        obtain ⟨p, e1, v1⟩ := gIx_VT ha (List.getElem?_eq_getElem hk)
        obtain ⟨q, e2, v2⟩ := gIx_VT hb (List.getElem?_eq_getElem hk)
        have hx : D.sm xs[k] m = true := by
          rw [sms_eq, List.all_eq_true] at h2
          exact h2 _ (List.getElem_mem hk)
        exact ⟨p, q, e1, e2, isV_lent v1, isV_lent v2, same m _ p q hx (by omega) v1 v2⟩)
      have na := na rfl
      have nb := nb rfl
      rw [unf]
      simp [fnP, b__law_same, env0, va, vb, la, lb, na, nb, ia, ib, D.is, ga, gb, gNe, gIsN, D.isN, hok, e]
    | dict _ => simp [D.sm] at hs
    | obj _ _ => simp [D.sm] at hs
    | kl _ => simp [D.sm] at hs
end K67
namespace K67
open PySem PySem.Spec PyProof.Rows L2 Tw
/-! ### the law -/
theorem at2 (xs : List D) : atI xs 2 = xs[2]? := atI_cast xs 2
theorem at3 (xs : List D) : atI xs 3 = xs[3]? := atI_cast xs 3
theorem at4 (xs : List D) : atI xs 4 = xs[4]? := atI_cast xs 4
theorem at5 (xs : List D) : atI xs 5 = xs[5]? := atI_cast xs 5
abbrev St (s sh : D) (c : Int) (arr dep hs ts : List Int) (y8 y9 y10 y11 y12 y13 y14 y15 y16 : Option O) : En :=
  [some (.fr s), some (.fr sh), some (oI c), some (oL arr), some (oL dep), some (.fr (.tup [.list (arr.map D.int), .list (dep.map D.int)])), some (oL hs), some (oL ts), y8, y9, y10, y11, y12, y13, y14, y15, y16]
def dLL (xss : List (List Int)) : D := .list (xss.map fun xs => .list (xs.map D.int))
def dueD (c : Prop) [Decidable c] (hs : List Int) (rs : List (List Int)) : D := if c then .tup [.str "runs", .list (hs.map D.int)] else .tup [.str "tracks", dLL rs]
theorem sm_ints (xs : List Int) (n : Nat) (h0 : 0 < n) (h : xs.length ≤ 1000000) : D.sm (.list (xs.map D.int)) n = true := by
  simp [D.sm, sms_eq, h0, h]
theorem sm_dLL (xss : List (List Int)) (n : Nat) (h0 : 1 < n) (h : xss.length ≤ 1000000) (h2 : ∀ xs ∈ xss, xs.length ≤ 1000000) : D.sm (dLL xss) n = true := by
  have a : 0 < n := by omega
  have b : 0 < n - 1 := by omega
  simp only [dLL, D.sm, sms_eq, List.length_map, h, a, decide_true, Bool.true_and, List.all_map, List.all_eq_true]
  intro xs hx
  have := sm_ints xs (n - 1) b (h2 xs hx)
  simpa using this
theorem turn3 (s sh : D) (c : Int) (arr dep ts : List Int) (k p : Nat) (hp : dep.Perm arr) (hn : arr.Nodup) (hl : arr.length ≤ 1000) (hk0 : 0 < k) (hk : k ≤ 2 ^ 80) (hpp : p ≤ 1000) (y8 y10 y11 y12 y14 y16 : Option O) :
    ∃ y8' y10', forGo (uN 8) b_law_3 ((rng 0 2).map fun i => O.fr (D.int i)) (St s sh c arr dep (heads arr dep) ts y8 (some (oI k)) y10 y11 y12 (some (oI p)) y14 (some (.fr (dueD ((k : Int) ^ p ≤ (heads arr dep).length) (heads arr dep) (rows (num (heads arr dep) dep) k arr p)))) y16) = some (.nx (St s sh c arr dep (heads arr dep) ts y8' (some (oI k)) y10' y11 y12 (some (oI p)) y14 (some (.fr (dueD ((k : Int) ^ p ≤ (heads arr dep).length) (heads arr dep) (rows (num (heads arr dep) dep) k arr p)))) y16)) := by
  have e0 := in_passes arr dep k p hp hn hl hk0 hk hpp
  have hhl : (heads arr dep).length ≤ 1000 := by
    have h1 := hp.length_eq
    have := List.length_filter_le (isHead arr dep) (List.range (dep.length - 1))
    simp only [heads, List.length_map]
    simp only [List.length_range] at this
    omega
  have hrl : (rows (num (heads arr dep) dep) k arr p).length = p := by simp [rows]
  have hrl2 : ∀ xs ∈ rows (num (heads arr dep) dep) k arr p, xs.length ≤ 1000000 := by
    intro xs hx
    simp only [rows, List.mem_map] at hx
    obtain ⟨t, _, rfl⟩ := hx
    have := (trn_perm (num (heads arr dep) dep) k arr t).length_eq
    simp only [row, List.length_map]
    omega
  generalize rows (num (heads arr dep) dep) k arr p = rs at *
  generalize heads arr dep = hs at *
  obtain ⟨ρ', e, y8', y10', rfl⟩ := forGo_rng (i := 8) (n := 2) (body := b_law_3) (fun t ρ => ∃ y8 y10 : Option O, ρ = St s sh c arr dep hs ts y8 (some (oI k)) y10 y11 y12 (some (oI p)) y14 (some (.fr (dueD ((k : Int) ^ p ≤ hs.length) hs rs))) y16)
    (ρ := St s sh c arr dep hs ts y8 (some (oI k)) y10 y11 y12 (some (oI p)) y14 (some (.fr (dueD ((k : Int) ^ p ≤ hs.length) hs rs))) y16) ⟨y8, y10, rfl⟩ (by
      rintro t ht ρ ⟨y8, y10, rfl⟩
      by_cases q : (k : Int) ^ p ≤ hs.length
      · have ed : dueD ((k : Int) ^ p ≤ hs.length) hs rs = .tup [.str "runs", .list (hs.map D.int)] := if_pos q
        rw [ed]
        rw [if_pos q] at e0
        have es := same 7 (.tup [.str "runs", .list (hs.map D.int)]) (.bo (.tup [.str "runs", .list (hs.map D.int)])) (.fr (.tup [.str "runs", .list (hs.map D.int)])) (by
          have := sm_ints hs 6 (by decide) (by omega)
          simp [D.sm, D.sms] at this ⊢
          refine ⟨by decide +kernel, this⟩) (by decide) (.inr rfl) (.inl rfl)
        refine ⟨_, .inl ?_, some (oI t), some (.tup [.fr (.str "runs"), .list (hs.map (fun x => .fr (.int x)) ++ [.fr (.int 0)])]), rfl⟩
        have hz : hs.length < 16777216 := by omega
        simp [b_law_3, e0, es, LINE, O.at', O.putAt, hz]
      · have ed : dueD ((k : Int) ^ p ≤ hs.length) hs rs = .tup [.str "tracks", dLL rs] := if_neg q
        rw [ed]
        rw [if_neg q] at e0
        have es := same 7 (.tup [.str "tracks", dLL rs]) (.bo (.tup [.str "tracks", dLL rs])) (.fr (.tup [.str "tracks", dLL rs])) (by
          have := sm_dLL rs 6 (by decide) (by omega) hrl2
          simp [D.sm, D.sms] at this ⊢
          refine ⟨by decide +kernel, this⟩) (by decide) (.inr rfl) (.inl rfl)
        refine ⟨_, .inl ?_, some (oI t), some (.tup [.fr (.str "tracks"), .list (rs.map (fun xs => .fr (.list (xs.map D.int))) ++ [.fr (.int 0)])]), rfl⟩
        have hz : rs.length < 16777216 := by omega
        simp only [dLL] at es
        simp [b_law_3, e0, es, LINE, O.at', O.putAt, hz, dLL])
  exact ⟨y8', y10', e⟩
theorem pass4 (s sh : D) (c : Int) (arr dep ts : List Int) (k p m : Nat) (hp : dep.Perm arr) (hn : arr.Nodup) (hl : arr.length ≤ 1000) (hk0 : 0 < k) (hk : k ≤ 2 ^ 80) (hpp : p ≤ 1000) (hm : m ≤ p ↔ ¬ (k : Int) ^ p ≤ (heads arr dep).length) (y8 y10 y11 y14 y15 y16 : Option O) :
    ∃ y8' y10' y15', b_law_4 (St s sh c arr dep (heads arr dep) ts y8 (some (oI k)) y10 y11 (some (oI m)) (some (oI p)) y14 y15 y16) = some (.nx (St s sh c arr dep (heads arr dep) ts y8' (some (oI k)) y10' y11 (some (oI m)) (some (oI p)) y14 y15' y16)) := by
  obtain ⟨z8, z10, e⟩ := turn3 s sh c arr dep ts k p hp hn hl hk0 hk hpp y8 y10 y11 (some (oI m)) y14 y16
  have el := law_lists arr dep k p hp hn hl hk0 hk hpp
  refine ⟨z8, z10, some (.fr (dueD ((k : Int) ^ p ≤ (heads arr dep).length) (heads arr dep) (rows (num (heads arr dep) dep) k arr p))), ?_⟩
  by_cases q : (k : Int) ^ p ≤ (heads arr dep).length
  · have hm' : ¬ m ≤ p := fun h => hm.mp h q
    have ed : dueD ((k : Int) ^ p ≤ (heads arr dep).length) (heads arr dep) (rows (num (heads arr dep) dep) k arr p) = .tup [.str "runs", .list ((heads arr dep).map D.int)] := if_pos q
    rw [ed] at e ⊢
    generalize rows (num (heads arr dep) dep) k arr p = rs at *
    generalize heads arr dep = hs at *
    have ok2 : OKR 2 = true := by decide
    simp [b_law_4, hm', mkTup, O.frs, LINE, ok2, e]
  · have hm' : m ≤ p := hm.mpr q
    have ed : dueD ((k : Int) ^ p ≤ (heads arr dep).length) (heads arr dep) (rows (num (heads arr dep) dep) k arr p) = .tup [.str "tracks", dLL (rows (num (heads arr dep) dep) k arr p)] := if_neg q
    rw [ed] at e ⊢
    generalize rows (num (heads arr dep) dep) k arr p = rs at *
    generalize heads arr dep = hs at *
    have ok2 : OKR 2 = true := by decide
    simp only [dLL] at e ⊢
    have fz : frz (O.tup [O.fr (D.str (Str.ofString "tracks")), wLL rs]) = some (.fr (.tup [D.str (Str.ofString "tracks"), D.list (List.map (fun xs => D.list (List.map D.int xs)) rs)])) := by
      unfold frz; simp
    simp [b_law_4, hm', mkTup, O.frs, LINE, el, ok2, fz, e]
theorem least2 (s sh : D) (c : Int) (arr dep hs ts : List Int) (k m : Nat) (hk : k ≤ 2 ^ 80) (h1 : ∀ p, (k : Int) ^ p ≤ hs.length ↔ p < m) (hm : m ≤ 7) (y8 y10 y11 y13 y14 y15 y16 : Option O) :
    ∃ y13', forGo (uN 13) b_law_2 ((rng 0 8).map fun i => O.fr (D.int i)) (St s sh c arr dep hs ts y8 (some (oI k)) y10 y11 (some (oI 0)) y13 y14 y15 y16) = some (.nx (St s sh c arr dep hs ts y8 (some (oI k)) y10 y11 (some (oI m)) y13' y14 y15 y16)) := by
  obtain ⟨ρ', e, y13', rfl⟩ := forGo_rng (i := 13) (n := 8) (body := b_law_2) (fun i ρ => ∃ y13 : Option O, ρ = St s sh c arr dep hs ts y8 (some (oI k)) y10 y11 (some (oI (min i m : Nat))) y13 y14 y15 y16)
    (ρ := St s sh c arr dep hs ts y8 (some (oI k)) y10 y11 (some (oI 0)) y13 y14 y15 y16) ⟨y13, by simp⟩ (by
      rintro p hp ρ ⟨y13, rfl⟩
      have ee := law_enough hs.length k p hk (by omega)
      refine ⟨_, .inl ?_, some (oI p), rfl⟩
      by_cases q : p < m
      · have q' := (h1 p).mpr q
        have q2 : ¬ ((hs.length : Int) < (k : Int) ^ p) := by omega
        rw [decide_eq_false q2] at ee
        have e1 : min (p + 1) m = p + 1 := by omega
        rw [e1]
        simp [b_law_2, ee]
      · have q' := mt (h1 p).mp q
        have q2 : ((hs.length : Int) < (k : Int) ^ p) := by omega
        rw [decide_eq_true q2] at ee
        have e1 : min (p + 1) m = min p m := by omega
        rw [e1]
        simp [b_law_2, ee])
  have e1 : min 8 m = m := by omega
  rw [e1] at e
  exact ⟨y13', e⟩
theorem heads_len (arr dep : List Int) : (heads arr dep).length ≤ dep.length := by
  have := List.length_filter_le (isHead arr dep) (List.range (dep.length - 1))
  simp only [heads, List.length_map]
  simp only [List.length_range] at this
  omega
theorem turn5 (s : D) (s0 s1 s2 s3 s4 s5 : Int) (c : Int) (arr dep ts : List Int) (k : Nat) (hp : dep.Perm arr) (hn : arr.Nodup) (hl : arr.length ≤ 120) (hk0 : 2 ≤ k) (hk : k ≤ 2 ^ 80) (y8 y10 y11 y12 y13 y14 y15 y16 : Option O) :
    ∃ y8' y10' y12' y13' y15', b_law_5 (St s (.list [.int s0, .int s1, .int s2, .int s3, .int s4, .int s5]) c arr dep (heads arr dep) ts y8 (some (oI k)) y10 y11 y12 y13 y14 y15 y16) = some (.nx (St s (.list [.int s0, .int s1, .int s2, .int s3, .int s4, .int s5]) c arr dep (heads arr dep) ts y8' (some (oI k)) y10' y11 y12' y13' y14 y15' y16)) := by
  have hhl := heads_len arr dep
  have hdl := hp.length_eq
  have hd : ∀ w ∈ dep, w ∈ arr := fun w hw => hp.mem_iff.mp hw
  obtain ⟨m, hm, h1, h2⟩ := least_ex k (heads arr dep).length (by
    have := Nat.pow_le_pow_left hk0 7
    omega)
  have h2 := h2 m rfl
  have h3 : ∀ p, (k : Int) ^ p ≤ (heads arr dep).length ↔ p < m := fun p => by
    refine ⟨fun h => ?_, h1 p⟩
    by_cases q : p < m
    · exact q
    · have := pow_mono (k := k) (by omega) (p := m) (q := p) (by omega)
      omega
  have el := least_passes arr dep k m hd (by omega) hk hm h1 h2
  obtain ⟨z13, e2⟩ := least2 s (.list [.int s0, .int s1, .int s2, .int s3, .int s4, .int s5]) c arr dep (heads arr dep) ts k m hk h3 hm y8 y10 y11 y13 y14 y15 y16
  have es := same 7 (.int m) (.fr (.int m)) (.fr (.int m)) (by simp [D.sm]) (by decide) (.inl rfl) (.inl rfl)
  have m1 : modOk s5 21 = true := modOk_of (by decide)
  have a1 : (0 : Int) ≤ s5 % 21 := Int.emod_nonneg _ (by decide)
  have a2 : s5 % 21 < 21 := Int.emod_lt_of_pos _ (by decide)
  obtain ⟨r, hr⟩ : ∃ r : Nat, s5 % 21 = r := ⟨(s5 % 21).toNat, by omega⟩
  obtain ⟨q, hq⟩ : ∃ q : Nat, max (0 : Int) ((m : Int) - 1) = q := ⟨(max (0 : Int) ((m : Int) - 1)).toNat, by omega⟩
  obtain ⟨ρ', e3, w8, w10, w13, w15, rfl, -⟩ := forGo_map (i := 13) (body := b_law_4) (fun p : Nat => O.fr (.int p)) (fun r ρ => ∃ y8 y10 y13 y15 : Option O, ρ = St s (.list [.int s0, .int s1, .int s2, .int s3, .int s4, .int s5]) c arr dep (heads arr dep) ts y8 (some (oI k)) y10 y11 (some (oI m)) y13 y14 y15 y16 ∧ ∀ p ∈ r, p ≤ 1000) [0, 1, q, m, m + 1, r]
    (St s (.list [.int s0, .int s1, .int s2, .int s3, .int s4, .int s5]) c arr dep (heads arr dep) ts y8 (some (oI k)) y10 y11 (some (oI m)) z13 y14 y15 y16) ⟨y8, y10, z13, y15, rfl, by
      intro p hp
      simp at hp
      omega⟩ (by
      rintro p r ρ ⟨y8, y10, y13, y15, rfl, hb⟩
      obtain ⟨u8, u10, u15, e⟩ := pass4 s (.list [.int s0, .int s1, .int s2, .int s3, .int s4, .int s5]) c arr dep ts k p m hp hn (by omega) (by omega) hk (hb p List.mem_cons_self) (by
        have := h3 p
        omega) y8 y10 y11 y14 y15 y16
      exact ⟨_, .inl e, u8, u10, some (oI p), u15, rfl, fun p hp => hb p (List.mem_cons_of_mem _ hp)⟩)
  have ok8 : OKR 8 = true := by decide
  refine ⟨w8, w10, some (oI m), w13, w15, ?_⟩
  generalize heads arr dep = hs at *
  simp only [List.map_cons, List.map_nil] at e3
  have gs : gSeq [.fr (.list [.int 0, .int 1, .int q, .int m, .int ((m : Int) + 1), .int r])] = some [.fr (.int 0), .fr (.int 1), .fr (.int q), .fr (.int m), .fr (.int ((m : Int) + 1)), .fr (.int r)] := by simp [gSeq]
  have fz : frz (.list [.fr (.int 0), .fr (.int 1), .fr (.int q), .fr (.int m), .fr (.int ((m : Int) + 1)), .fr (.int r)]) = some (.fr (.list [.int 0, .int 1, .int q, .int m, .int ((m : Int) + 1), .int r])) := by unfold frz; simp
  simp only [Int.natCast_add, Int.ofNat_one, Int.ofNat_zero] at e3
  simp [b_law_5, ok8, e2, el, es, m1, hr, hq, LINE, at5, gs, fz, e3]
theorem turn1 (s sh : D) (c : Int) (arr dep ts : List Int) (hp : dep.Perm arr) (hl : arr.length ≤ 120) (ht : ts.length = arr.length) (y8 y9 y10 y11 y12 y13 y14 y15 y16 : Option O) :
    ∃ y8' y10' y11', forGo (uN 8) b_law_1 ((rng 0 2).map fun i => O.fr (D.int i)) (St s sh c arr dep (heads arr dep) ts y8 y9 y10 y11 y12 y13 y14 y15 y16) = some (.nx (St s sh c arr dep (heads arr dep) ts y8' y9 y10' y11' y12 y13 y14 y15 y16)) := by
  have hhl := heads_len arr dep
  have hdl := hp.length_eq
  have hd : ∀ w ∈ dep, w ∈ arr := fun w hw => hp.mem_iff.mp hw
  have eh := run_heads arr dep hd (by omega)
  have ea := after_pass arr ts (by omega) ht
  have eb := law_after arr ts (by omega) ht
  have hal := (aft_perm arr ts ht).length_eq
  have es := same 7 (.list ((heads arr dep).map D.int)) (.bo (.list ((heads arr dep).map D.int))) (.fr (.list ((heads arr dep).map D.int))) (sm_ints _ _ (by decide) (by omega)) (by decide) (.inr rfl) (.inl rfl)
  have et := same 7 (.list ((aft arr ts).map D.int)) (.bo (.list ((aft arr ts).map D.int))) (.fr (.list ((aft arr ts).map D.int))) (sm_ints _ _ (by decide) (by omega)) (by decide) (.inr rfl) (.inl rfl)
  generalize heads arr dep = hs at *
  generalize aft arr ts = af at *
  obtain ⟨ρ', e, z8, z10, z11, rfl⟩ := forGo_rng (i := 8) (n := 2) (body := b_law_1) (fun i ρ => ∃ y8 y10 y11 : Option O, ρ = St s sh c arr dep hs ts y8 y9 y10 y11 y12 y13 y14 y15 y16)
    (ρ := St s sh c arr dep hs ts y8 y9 y10 y11 y12 y13 y14 y15 y16) ⟨y8, y10, y11, rfl⟩ (by
      rintro i hi ρ ⟨y8, y10, y11, rfl⟩
      have z1 : hs.length < 16777216 := by omega
      have z2 : af.length < 16777216 := by omega
      refine ⟨_, .inl ?_, some (oI i), some (.list (hs.map (fun x => .fr (.int x)) ++ [.fr (.int 0)])), some (.list (af.map (fun x => .fr (.int x)) ++ [.fr (.int 0)])), rfl⟩
      simp [b_law_1, eh, ea, eb, es, et, gList, z1, z2, LINE])
  exact ⟨z8, z10, z11, e⟩
theorem intBits_log {z : Int} (h : Builtin.Int.intBits z ≤ 1048576) : z.natAbs.log2 ≤ 1048600 := by
  unfold Builtin.Int.intBits at h
  split at h
  · simp_all
  · omega
end K67
namespace K67
open PySem PySem.Spec PyProof.Rows L2 Tw
theorem oSome_c (i : Int) (ρ : En) : oSome (xC (.int i)) ρ = some (some i) := by
  cases ρ <;> rfl
theorem eqvs_ints : ∀ xs : List Int, D.eqvs (xs.map D.int) (xs.map D.int) = true
  | [] => by simp
  | x :: xs => by simp [eqvs_ints xs]
theorem eq_two (xs ys : List Int) (h1 : xs.length ≤ 1000000) (h2 : ys.length ≤ 1000000) : gEq [.fr (.tup [.list (xs.map D.int), .list (ys.map D.int)]), .fr (.tup [.list (xs.map D.int), .list (ys.map D.int)])] = some (.fr (.bool true)) := by
  have a := sm_sh _ 6 29 (by decide) (sm_ints xs 6 (by decide) h1)
  have b := sm_sh _ 6 29 (by decide) (sm_ints ys 6 (by decide) h2)
  simp only [gEq]
  simp [eqvs_ints] at a b ⊢
theorem law_true (ns : List Int) (h1 : ns.length ≤ 63) (h2 : ∀ z ∈ ns, Builtin.Int.intBits z ≤ 1048576) : ∃ os, fn_law [.fr (.kl (ns.map D.int))] = some (.fr (.bool true), os) := by
  have hcell : ∀ k, k < 64 → (ns.getD k (31 * k + 5)).natAbs.log2 ≤ 1048600 := fun k hk => by
    by_cases c : k < ns.length
    · have : ns.getD k (31 * k + 5) = ns[k] := by simp [c]
      rw [this]
      exact intBits_log (h2 _ (List.getElem_mem c))
    · have : ns.getD k (31 * k + 5) = 31 * k + 5 := by simp [c]
      rw [this]
      have := log2_le (n := ((31 : Int) * k + 5).natAbs) (m := 20) (by omega)
      omega
  have c0 := law_cell ns 0 (by decide)
  have c1 := law_cell ns 1 (by decide)
  have c2 := law_cell ns 2 (by decide)
  have c3 := law_cell ns 3 (by decide)
  obtain ⟨v0, q0⟩ : ∃ v, ns.getD 0 (31 * (0 : Nat) + 5) = v := ⟨_, rfl⟩
  obtain ⟨v1, q1⟩ : ∃ v, ns.getD 1 (31 * (1 : Nat) + 5) = v := ⟨_, rfl⟩
  obtain ⟨v2, q2⟩ : ∃ v, ns.getD 2 (31 * (2 : Nat) + 5) = v := ⟨_, rfl⟩
  obtain ⟨v3, q3⟩ : ∃ v, ns.getD 3 (31 * (3 : Nat) + 5) = v := ⟨_, rfl⟩
  have b0 := hcell 0 (by decide)
  have b1 := hcell 1 (by decide)
  have b2 := hcell 2 (by decide)
  have b3 := hcell 3 (by decide)
  rw [q0] at c0 b0
  rw [q1] at c1 b1
  rw [q2] at c2 b2
  rw [q3] at c3 b3
  simp only [show ((0 : Nat) : Int) = 0 from rfl, show ((1 : Nat) : Int) = 1 from rfl, show ((2 : Nat) : Int) = 2 from rfl, show ((3 : Nat) : Int) = 3 from rfl] at c0 c1 c2 c3
  obtain ⟨sh, l6, hsh, e0⟩ := law_numbers v0 6 20160 b0 (by decide) (by decide) (by decide)
  obtain ⟨s0, s1, s2, s3, s4, s5, rfl⟩ : ∃ s0 s1 s2 s3 s4 s5, sh = [s0, s1, s2, s3, s4, s5] := by
    match sh, l6 with
    | [a, b, c, d, e, f], _ => exact ⟨a, b, c, d, e, f, rfl⟩
  have n0 := hsh s0 (by simp)
  have n3 := hsh s3 (by simp)
  have n4 := hsh s4 (by simp)
  obtain ⟨c, hc, hcc⟩ : ∃ c : Nat, (if s0 % 4 = 3 then s0 / 4 % 101 else s0 / 4 % 13) = (c : Int) ∧ c ≤ 100 := by
    by_cases q : s0 % 4 = 3
    · exact ⟨(s0 / 4 % 101).toNat, by rw [if_pos q]; omega, by omega⟩
    · exact ⟨(s0 / 4 % 13).toNat, by rw [if_neg q]; omega, by omega⟩
  obtain ⟨arr, la, na, ba, e1⟩ := law_train v1 c b1 (by omega)
  obtain ⟨dep, pd, e2⟩ := law_departing arr v2 s1 s2 b2 (by omega)
  have ld := pd.length_eq
  have hd : ∀ w ∈ dep, w ∈ arr := fun w hw => pd.mem_iff.mp hw
  have e3 := law_heads arr dep hd (by omega)
  obtain ⟨ds, lds, hds, e4⟩ := law_numbers v3 c 20160 b3 (by omega) (by decide) (by decide)
  have kk : ∃ ts : List Int, ts.length = c ∧ ts = (if s3 % 4 = 0 then (ds.map fun x => x % (2 + s3 % 20)).map (fun x => x * 10 ^ 25) else ds.map fun x => x % (2 + s3 % 20)) := ⟨_, by split <;> simp [lds], rfl⟩
  obtain ⟨ts, lts, hts⟩ := kk
  have hmod : ∀ x, modOk x (2 + s3 % 20) = true := fun x => modOk_of (by omega)
  have em20 : modOk s3 20 = true := modOk_of (by decide)
  have ec := lcGo_map (i := 14) (fe := x2 gMod (xNm 14) (x2 gAdd (xC (.int 2)) (x2 gMod (x2 gIx (xNm 1) (xC (.int 3))) (xC (.int 20))))) (ρ := [some (.fr (.kl (ns.map D.int))), some (.fr (.list [.int s0, .int s1, .int s2, .int s3, .int s4, .int s5])), some (oI c), some (oL arr), some (oL dep), some (.fr (.tup [.list (arr.map D.int), .list (dep.map D.int)])), some (oL (heads arr dep)), none, none, none, none, none, none, none, none, none, none]) (fun x : Int => O.fr (.int x)) (fun x => .fr (.int (x % (2 + s3 % 20)))) ds (by
    intro x _
    simp [at3, em20, hmod])
  obtain ⟨us, hus⟩ : ∃ us, us = ds.map fun x => x % (2 + s3 % 20) := ⟨_, rfl⟩
  have hub : ∀ x ∈ us, 0 ≤ x ∧ x < 22 := by
    intro x hx
    rw [hus] at hx
    obtain ⟨y, _, rfl⟩ := List.mem_map.mp hx
    have := Int.emod_nonneg y (b := 2 + s3 % 20) (by omega)
    have := Int.emod_lt_of_pos y (b := 2 + s3 % 20) (by omega)
    omega
  have lus : us.length = c := by rw [hus]; simp [lds]
  rw [show (ds.map fun x => O.fr (.int (x % (2 + s3 % 20)))) = us.map fun x => .fr (.int x) by rw [hus, List.map_map]; rfl] at ec
  rw [← hus] at hts
  have ec2 := lcGo_map (i := 16) (fe := x2 gMul (xNm 16) (x2 gPow (xC (.int 10)) (xC (.int 25)))) (ρ := [some (.fr (.kl (ns.map D.int))), some (.fr (.list [.int s0, .int s1, .int s2, .int s3, .int s4, .int s5])), some (oI c), some (oL arr), some (oL dep), some (.fr (.tup [.list (arr.map D.int), .list (dep.map D.int)])), some (oL (heads arr dep)), some (oL us), none, none, none, none, none, none, none, none, none]) (fun x : Int => O.fr (.int x)) (fun x => .fr (.int (x * 10 ^ 25))) us (by
    intro x hx
    have := hub x hx
    have hb : bitsOk x 10000000000000000000000000 = true := bitsOk_sm (by omega) (by decide)
    simp [hb])
  obtain ⟨k2, hk2⟩ : ∃ k : Nat, (3 : Int) + s4 % 8 = k := ⟨(3 + s4 % 8).toNat, by omega⟩
  obtain ⟨k3, hk3⟩ : ∃ k : Nat, (100000000000000000000 : Int) + s4 = k := ⟨(100000000000000000000 + s4).toNat, by omega⟩
  obtain ⟨z8, z10, z11, et1⟩ := turn1 (.kl (ns.map D.int)) (.list [.int s0, .int s1, .int s2, .int s3, .int s4, .int s5]) c arr dep ts pd (by omega) (by omega) none none none none none none none none none
  obtain ⟨ρ', e5, w8, w9, w10, w12, w13, w15, rfl, -⟩ := forGo_map (i := 9) (body := b_law_5) (fun p : Nat => O.fr (.int p)) (fun r ρ => ∃ y8 y9 y10 y12 y13 y15 : Option O, ρ = St (.kl (ns.map D.int)) (.list [.int s0, .int s1, .int s2, .int s3, .int s4, .int s5]) c arr dep (heads arr dep) ts y8 y9 y10 z11 y12 y13 none y15 none ∧ ∀ p ∈ r, 2 ≤ p ∧ p ≤ 2 ^ 80) [2, k2, k3]
    (St (.kl (ns.map D.int)) (.list [.int s0, .int s1, .int s2, .int s3, .int s4, .int s5]) c arr dep (heads arr dep) ts z8 none z10 z11 none none none none none) ⟨z8, none, z10, none, none, none, rfl, by
      intro p hp
      simp at hp
      omega⟩ (by
      rintro p r ρ ⟨y8, y9, y10, y12, y13, y15, rfl, hb⟩
      obtain ⟨u8, u10, u12, u13, u15, e⟩ := turn5 (.kl (ns.map D.int)) s0 s1 s2 s3 s4 s5 c arr dep ts p pd na (by omega) (hb p List.mem_cons_self).1 (hb p List.mem_cons_self).2 y8 y10 z11 y12 y13 none y15 none
      exact ⟨_, .inl e, u8, some (oI p), u10, u12, u13, u15, rfl, fun p hp => hb p (List.mem_cons_of_mem _ hp)⟩)
  have m4 : ∀ x, modOk x 4 = true := fun x => modOk_of (by decide)
  have m8 : ∀ x, modOk x 8 = true := fun x => modOk_of (by decide)
  have m13 : ∀ x, modOk x 13 = true := fun x => modOk_of (by decide)
  have m101 : ∀ x, modOk x 101 = true := fun x => modOk_of (by decide)
  have d4 : ∀ x, divOk x 4 = true := fun x => divOk_of (by decide) (by decide)
  have ok2 : OKR 2 = true := by decide
  generalize heads arr dep = hs at *
  simp only [List.map_cons, List.map_nil] at e5 e0
  have gs : gSeq [.fr (.list [.int 2, .int k2, .int k3])] = some [.fr (.int 2), .fr (.int k2), .fr (.int k3)] := by simp [gSeq]
  have fz : frz (.list [.fr (.int 2), .fr (.int k2), .fr (.int k3)]) = some (.fr (.list [.int 2, .int k2, .int k3])) := by unfold frz; simp
  have fz6 : frz (.list [.fr (.int s0), .fr (.int s1), .fr (.int s2), .fr (.int s3), .fr (.int s4), .fr (.int s5)]) = some (.fr (.list [.int s0, .int s1, .int s2, .int s3, .int s4, .int s5])) := by unfold frz; simp
  have fz2 : frz (.list [.fr (.int s1), .fr (.int s2)]) = some (.fr (.list [.int s1, .int s2])) := by unfold frz; simp
  have fz5 : frz (.tup [.list (arr.map fun x => O.fr (D.int x)), .list (dep.map fun x => O.fr (D.int x))]) = some (.fr (.tup [.list (arr.map D.int), .list (dep.map D.int)])) := by unfold frz; simp
  have zd : ds.length ≤ 16777216 := by omega
  have zu : us.length ≤ 16777216 := by omega
  have ef := eq_two arr dep (by omega) (by omega)
  have hsl : gSl (.fr (.list [.int s0, .int s1, .int s2, .int s3, .int s4, .int s5])) (some 1) (some 3) = some (.list [.fr (.int s1), .fr (.int s2)]) := by rfl
  simp only [show ((6 : Nat) : Int) = 6 from rfl, show ((2 : Nat) : Int) = 2 from rfl] at e0 e5
  refine ⟨[.fr (.kl (ns.map D.int))], ?_⟩
  by_cases qa : s0 % 4 = 3
  · rw [if_pos qa] at hc
    by_cases qb : s3 % 4 = 0
    · rw [if_pos qb] at hts
      have hdt : (us.map fun x => D.int (x * 10000000000000000000000000)) = ts.map D.int := by simp [hts, Function.comp_def]
      simp [fn_law, fnP, b_law, env0, c0, c1, c2, c3, e0, e1, e2, e3, e4, fz6, fz2, hsl, m4, m8, m13, m101, d4, qa, qb, hc, gList, mkTup, O.frs, LINE, at3, at4, oSome_c, Function.comp_def, zd, zu, hdt, fz5, ef, ec, ec2, ok2, et1, e5, hk2, hk3, gs, fz]
    · rw [if_neg qb] at hts
      subst hts
      simp [fn_law, fnP, b_law, env0, c0, c1, c2, c3, e0, e1, e2, e3, e4, fz6, fz2, hsl, m4, m8, m13, m101, d4, qa, qb, hc, gList, mkTup, O.frs, LINE, at3, at4, oSome_c, Function.comp_def, zd, zu, fz5, ef, ec, ec2, ok2, et1, e5, hk2, hk3, gs, fz]
  · rw [if_neg qa] at hc
    by_cases qb : s3 % 4 = 0
    · rw [if_pos qb] at hts
      have hdt : (us.map fun x => D.int (x * 10000000000000000000000000)) = ts.map D.int := by simp [hts, Function.comp_def]
      simp [fn_law, fnP, b_law, env0, c0, c1, c2, c3, e0, e1, e2, e3, e4, fz6, fz2, hsl, m4, m8, m13, m101, d4, qa, qb, hc, gList, mkTup, O.frs, LINE, at3, at4, oSome_c, Function.comp_def, zd, zu, hdt, fz5, ef, ec, ec2, ok2, et1, e5, hk2, hk3, gs, fz]
    · rw [if_neg qb] at hts
      subst hts
      simp [fn_law, fnP, b_law, env0, c0, c1, c2, c3, e0, e1, e2, e3, e4, fz6, fz2, hsl, m4, m8, m13, m101, d4, qa, qb, hc, gList, mkTup, O.frs, LINE, at3, at4, oSome_c, Function.comp_def, zd, zu, fz5, ef, ec, ec2, ok2, et1, e5, hk2, hk3, gs, fz]
end K67
theorem PySem.Challenge.cw_trackswhole_k67_sorting_in_passes_holds : PySem.Challenge.rw_trackswhole_k67_sorting_in_passes.Holds := by
  exact K67.fin K67.law_true
