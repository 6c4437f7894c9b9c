import Derived.Test.YtekmkgegjicjgaaGreatZIr3
import Derived.Test.YtekmkgegjicjgaaGreatZBas
import Derived.Test.YtekmkgegjicjgaaGreatZCon
namespace Go.Proofs.YtekmkgegjicjgaaGreat
open Go.Dv Go.Dv.EvL
set_option maxRecDepth 100000
set_option maxHeartbeats 16000000
attribute [local irreducible] Ok Rm Dm Om Sm Xm Cm Gm Hm Tm
def mkHd (q:Int):Hd:=⟨q,((q+1).tmod 3 == 0),q+1+1,q+1+1+1,q+1+1+1+1,((q+1+1+1+1+1).tmod 3 == 0),q+1+1+1+1+1+1,q+1+1+1+1+1+1+1,q+1+1+1+1+1+1+1+1,q+1+1+1+1+1+1+1+1+1⟩
def mksHd (k:Int)(n:Nat):List Hd:=(List.range n).map fun i:Nat=>mkHd (k+10 * i)
theorem mksHd_len {k:Int}{n:Nat}:(mksHd k n).length=n:=by simp [mksHd]
attribute [simp] mksHd_len
theorem mksHd_get {k:Int}{n i:Nat}(h:i<n):(mksHd k n).getD i default=mkHd (k+10 * i):=by simp [mksHd,List.getD_eq_getElem?_getD,h]
theorem mksHd_succ {k:Int}{n:Nat}:mksHd k (n+1)=mksHd k n++[mkHd (k+10 * n)]:=by simp [mksHd,List.range_succ]
theorem mksHd_step {k:Int}{ys:List Hd}{i:Nat}(h:i<ys.length):(mksHd k i++ys.drop i).set i (mkHd (k+10 * i))=mksHd k (i+1)++ys.drop (i+1):=by
 rw [List.set_append_right _ _ (by rw [mksHd_len]; omega),mksHd_len,Nat.sub_self,mksHd_succ,List.append_assoc]
 congr 1
 rw [List.drop_eq_getElem_cons h]
 rfl
theorem put_Hd0 {M:Md}{q:Bool}{d:Option Nat}{os:List GOp}{s:Stk}{env:Env}{H:Heap}{i j t:Nat}{a:Int}{xs:List Hd}(h:j<xs.length)(hg:H[i]? = some (.arr t 10 (xs.map Hd.pv)))
  (h2:Sm M q (asked d os) .undef d os s env (setL H i (.arr t 10 ((xs.set j {xs.getD j default with addr:=a}).map Hd.pv)))):Rm M q (.put i ((xs.map Hd.pv)[j]?) j 0 1 (.int .i64 a) H) d os s env :=
 Rm_putw h _ rfl rfl hg h2
theorem put_Hd1 {M:Md}{q:Bool}{d:Option Nat}{os:List GOp}{s:Stk}{env:Env}{H:Heap}{i j t:Nat}{a:Bool}{xs:List Hd}(h:j<xs.length)(hg:H[i]? = some (.arr t 10 (xs.map Hd.pv)))
  (h2:Sm M q (asked d os) .undef d os s env (setL H i (.arr t 10 ((xs.set j {xs.getD j default with eo:=a}).map Hd.pv)))):Rm M q (.put i ((xs.map Hd.pv)[j]?) j 1 1 (.bool a) H) d os s env :=
 Rm_putw h _ rfl rfl hg h2
theorem put_Hd2 {M:Md}{q:Bool}{d:Option Nat}{os:List GOp}{s:Stk}{env:Env}{H:Heap}{i j t:Nat}{a:Int}{xs:List Hd}(h:j<xs.length)(hg:H[i]? = some (.arr t 10 (xs.map Hd.pv)))
  (h2:Sm M q (asked d os) .undef d os s env (setL H i (.arr t 10 ((xs.set j {xs.getD j default with ea:=a}).map Hd.pv)))):Rm M q (.put i ((xs.map Hd.pv)[j]?) j 2 1 (.int .i64 a) H) d os s env :=
 Rm_putw h _ rfl rfl hg h2
theorem put_Hd3 {M:Md}{q:Bool}{d:Option Nat}{os:List GOp}{s:Stk}{env:Env}{H:Heap}{i j t:Nat}{a:Int}{xs:List Hd}(h:j<xs.length)(hg:H[i]? = some (.arr t 10 (xs.map Hd.pv)))
  (h2:Sm M q (asked d os) .undef d os s env (setL H i (.arr t 10 ((xs.set j {xs.getD j default with eb:=a}).map Hd.pv)))):Rm M q (.put i ((xs.map Hd.pv)[j]?) j 3 1 (.int .i64 a) H) d os s env :=
 Rm_putw h _ rfl rfl hg h2
theorem put_Hd4 {M:Md}{q:Bool}{d:Option Nat}{os:List GOp}{s:Stk}{env:Env}{H:Heap}{i j t:Nat}{a:Int}{xs:List Hd}(h:j<xs.length)(hg:H[i]? = some (.arr t 10 (xs.map Hd.pv)))
  (h2:Sm M q (asked d os) .undef d os s env (setL H i (.arr t 10 ((xs.set j {xs.getD j default with eAt:=a}).map Hd.pv)))):Rm M q (.put i ((xs.map Hd.pv)[j]?) j 4 1 (.int .i64 a) H) d os s env :=
 Rm_putw h _ rfl rfl hg h2
theorem put_Hd5 {M:Md}{q:Bool}{d:Option Nat}{os:List GOp}{s:Stk}{env:Env}{H:Heap}{i j t:Nat}{a:Bool}{xs:List Hd}(h:j<xs.length)(hg:H[i]? = some (.arr t 10 (xs.map Hd.pv)))
  (h2:Sm M q (asked d os) .undef d os s env (setL H i (.arr t 10 ((xs.set j {xs.getD j default with oo:=a}).map Hd.pv)))):Rm M q (.put i ((xs.map Hd.pv)[j]?) j 5 1 (.bool a) H) d os s env :=
 Rm_putw h _ rfl rfl hg h2
theorem put_Hd6 {M:Md}{q:Bool}{d:Option Nat}{os:List GOp}{s:Stk}{env:Env}{H:Heap}{i j t:Nat}{a:Int}{xs:List Hd}(h:j<xs.length)(hg:H[i]? = some (.arr t 10 (xs.map Hd.pv)))
  (h2:Sm M q (asked d os) .undef d os s env (setL H i (.arr t 10 ((xs.set j {xs.getD j default with oa:=a}).map Hd.pv)))):Rm M q (.put i ((xs.map Hd.pv)[j]?) j 6 1 (.int .i64 a) H) d os s env :=
 Rm_putw h _ rfl rfl hg h2
theorem put_Hd7 {M:Md}{q:Bool}{d:Option Nat}{os:List GOp}{s:Stk}{env:Env}{H:Heap}{i j t:Nat}{a:Int}{xs:List Hd}(h:j<xs.length)(hg:H[i]? = some (.arr t 10 (xs.map Hd.pv)))
  (h2:Sm M q (asked d os) .undef d os s env (setL H i (.arr t 10 ((xs.set j {xs.getD j default with ob:=a}).map Hd.pv)))):Rm M q (.put i ((xs.map Hd.pv)[j]?) j 7 1 (.int .i64 a) H) d os s env :=
 Rm_putw h _ rfl rfl hg h2
theorem put_Hd8 {M:Md}{q:Bool}{d:Option Nat}{os:List GOp}{s:Stk}{env:Env}{H:Heap}{i j t:Nat}{a:Int}{xs:List Hd}(h:j<xs.length)(hg:H[i]? = some (.arr t 10 (xs.map Hd.pv)))
  (h2:Sm M q (asked d os) .undef d os s env (setL H i (.arr t 10 ((xs.set j {xs.getD j default with oAt:=a}).map Hd.pv)))):Rm M q (.put i ((xs.map Hd.pv)[j]?) j 8 1 (.int .i64 a) H) d os s env :=
 Rm_putw h _ rfl rfl hg h2
theorem put_Hd9 {M:Md}{q:Bool}{d:Option Nat}{os:List GOp}{s:Stk}{env:Env}{H:Heap}{i j t:Nat}{a:Int}{xs:List Hd}(h:j<xs.length)(hg:H[i]? = some (.arr t 10 (xs.map Hd.pv)))
  (h2:Sm M q (asked d os) .undef d os s env (setL H i (.arr t 10 ((xs.set j {xs.getD j default with fr:=a}).map Hd.pv)))):Rm M q (.put i ((xs.map Hd.pv)[j]?) j 9 1 (.int .i64 a) H) d os s env :=
 Rm_putw h _ rfl rfl hg h2
theorem puts_Hd0 {M:Md}{q:Bool}{d:Option Nat}{os:List GOp}{s:Stk}{env:Env}{H:Heap}{i j t:Nat}{a:Int}{xs:List Hd}{x:Hd}(h:j<xs.length)(hg:H[i]? = some (.arr t 10 ((xs.set j x).map Hd.pv)))
  (h2:Sm M q (asked d os) .undef d os s env (setL H i (.arr t 10 ((xs.set j {x with addr:=a}).map Hd.pv)))):Rm M q (.put i (((xs.set j x).map Hd.pv)[j]?) j 0 1 (.int .i64 a) H) d os s env:=by
 refine put_Hd0 (by rw [List.length_set]; exact h) hg ?_
 rw [List.set_set,getD_set h]
 exact h2
theorem puts_Hd1 {M:Md}{q:Bool}{d:Option Nat}{os:List GOp}{s:Stk}{env:Env}{H:Heap}{i j t:Nat}{a:Bool}{xs:List Hd}{x:Hd}(h:j<xs.length)(hg:H[i]? = some (.arr t 10 ((xs.set j x).map Hd.pv)))
  (h2:Sm M q (asked d os) .undef d os s env (setL H i (.arr t 10 ((xs.set j {x with eo:=a}).map Hd.pv)))):Rm M q (.put i (((xs.set j x).map Hd.pv)[j]?) j 1 1 (.bool a) H) d os s env:=by
 refine put_Hd1 (by rw [List.length_set]; exact h) hg ?_
 rw [List.set_set,getD_set h]
 exact h2
theorem puts_Hd2 {M:Md}{q:Bool}{d:Option Nat}{os:List GOp}{s:Stk}{env:Env}{H:Heap}{i j t:Nat}{a:Int}{xs:List Hd}{x:Hd}(h:j<xs.length)(hg:H[i]? = some (.arr t 10 ((xs.set j x).map Hd.pv)))
  (h2:Sm M q (asked d os) .undef d os s env (setL H i (.arr t 10 ((xs.set j {x with ea:=a}).map Hd.pv)))):Rm M q (.put i (((xs.set j x).map Hd.pv)[j]?) j 2 1 (.int .i64 a) H) d os s env:=by
 refine put_Hd2 (by rw [List.length_set]; exact h) hg ?_
 rw [List.set_set,getD_set h]
 exact h2
theorem puts_Hd3 {M:Md}{q:Bool}{d:Option Nat}{os:List GOp}{s:Stk}{env:Env}{H:Heap}{i j t:Nat}{a:Int}{xs:List Hd}{x:Hd}(h:j<xs.length)(hg:H[i]? = some (.arr t 10 ((xs.set j x).map Hd.pv)))
  (h2:Sm M q (asked d os) .undef d os s env (setL H i (.arr t 10 ((xs.set j {x with eb:=a}).map Hd.pv)))):Rm M q (.put i (((xs.set j x).map Hd.pv)[j]?) j 3 1 (.int .i64 a) H) d os s env:=by
 refine put_Hd3 (by rw [List.length_set]; exact h) hg ?_
 rw [List.set_set,getD_set h]
 exact h2
theorem puts_Hd4 {M:Md}{q:Bool}{d:Option Nat}{os:List GOp}{s:Stk}{env:Env}{H:Heap}{i j t:Nat}{a:Int}{xs:List Hd}{x:Hd}(h:j<xs.length)(hg:H[i]? = some (.arr t 10 ((xs.set j x).map Hd.pv)))
  (h2:Sm M q (asked d os) .undef d os s env (setL H i (.arr t 10 ((xs.set j {x with eAt:=a}).map Hd.pv)))):Rm M q (.put i (((xs.set j x).map Hd.pv)[j]?) j 4 1 (.int .i64 a) H) d os s env:=by
 refine put_Hd4 (by rw [List.length_set]; exact h) hg ?_
 rw [List.set_set,getD_set h]
 exact h2
theorem puts_Hd5 {M:Md}{q:Bool}{d:Option Nat}{os:List GOp}{s:Stk}{env:Env}{H:Heap}{i j t:Nat}{a:Bool}{xs:List Hd}{x:Hd}(h:j<xs.length)(hg:H[i]? = some (.arr t 10 ((xs.set j x).map Hd.pv)))
  (h2:Sm M q (asked d os) .undef d os s env (setL H i (.arr t 10 ((xs.set j {x with oo:=a}).map Hd.pv)))):Rm M q (.put i (((xs.set j x).map Hd.pv)[j]?) j 5 1 (.bool a) H) d os s env:=by
 refine put_Hd5 (by rw [List.length_set]; exact h) hg ?_
 rw [List.set_set,getD_set h]
 exact h2
theorem puts_Hd6 {M:Md}{q:Bool}{d:Option Nat}{os:List GOp}{s:Stk}{env:Env}{H:Heap}{i j t:Nat}{a:Int}{xs:List Hd}{x:Hd}(h:j<xs.length)(hg:H[i]? = some (.arr t 10 ((xs.set j x).map Hd.pv)))
  (h2:Sm M q (asked d os) .undef d os s env (setL H i (.arr t 10 ((xs.set j {x with oa:=a}).map Hd.pv)))):Rm M q (.put i (((xs.set j x).map Hd.pv)[j]?) j 6 1 (.int .i64 a) H) d os s env:=by
 refine put_Hd6 (by rw [List.length_set]; exact h) hg ?_
 rw [List.set_set,getD_set h]
 exact h2
theorem puts_Hd7 {M:Md}{q:Bool}{d:Option Nat}{os:List GOp}{s:Stk}{env:Env}{H:Heap}{i j t:Nat}{a:Int}{xs:List Hd}{x:Hd}(h:j<xs.length)(hg:H[i]? = some (.arr t 10 ((xs.set j x).map Hd.pv)))
  (h2:Sm M q (asked d os) .undef d os s env (setL H i (.arr t 10 ((xs.set j {x with ob:=a}).map Hd.pv)))):Rm M q (.put i (((xs.set j x).map Hd.pv)[j]?) j 7 1 (.int .i64 a) H) d os s env:=by
 refine put_Hd7 (by rw [List.length_set]; exact h) hg ?_
 rw [List.set_set,getD_set h]
 exact h2
theorem puts_Hd8 {M:Md}{q:Bool}{d:Option Nat}{os:List GOp}{s:Stk}{env:Env}{H:Heap}{i j t:Nat}{a:Int}{xs:List Hd}{x:Hd}(h:j<xs.length)(hg:H[i]? = some (.arr t 10 ((xs.set j x).map Hd.pv)))
  (h2:Sm M q (asked d os) .undef d os s env (setL H i (.arr t 10 ((xs.set j {x with oAt:=a}).map Hd.pv)))):Rm M q (.put i (((xs.set j x).map Hd.pv)[j]?) j 8 1 (.int .i64 a) H) d os s env:=by
 refine put_Hd8 (by rw [List.length_set]; exact h) hg ?_
 rw [List.set_set,getD_set h]
 exact h2
theorem puts_Hd9 {M:Md}{q:Bool}{d:Option Nat}{os:List GOp}{s:Stk}{env:Env}{H:Heap}{i j t:Nat}{a:Int}{xs:List Hd}{x:Hd}(h:j<xs.length)(hg:H[i]? = some (.arr t 10 ((xs.set j x).map Hd.pv)))
  (h2:Sm M q (asked d os) .undef d os s env (setL H i (.arr t 10 ((xs.set j {x with fr:=a}).map Hd.pv)))):Rm M q (.put i (((xs.set j x).map Hd.pv)[j]?) j 9 1 (.int .i64 a) H) d os s env:=by
 refine put_Hd9 (by rw [List.length_set]; exact h) hg ?_
 rw [List.set_set,getD_set h]
 exact h2
theorem k_markHeardS (ys:List Hd)(k:Int)(hb:ys.length≤1048576)(hk:0<k∧k≤1099511627776):Ok Tryz.prog 93 [.own 0 0 ys.length,.p (.int .i64 k)] [.arr 111 10 (ys.map Hd.pv)]
  fun d H=>d = .p (.int .i64 (k+10 * ys.length))∧H=[.arr 111 10 ((mksHd k ys.length).map Hd.pv)]:=by
 refine ok_D hmix c_laws_markHeardS (by simp) ?_
 refine sA ?_
 refine Dm_loop [0,1,5] (fun m ds H' => ∃ i:Nat,i≤ys.length∧m=ys.length - i∧ds=[.own 0 0 ys.length,.p (.int .i64 (k+10 * i)),.p (.int .i64 i)]∧H'=[.arr 111 10 ((mksHd k i++ys.drop i).map Hd.pv)]) ys.length ⟨0,by simp,by simp,by simp; rfl,rfl⟩ ?_
 rintro m ds H' ⟨i,hi,rfl,rfl,rfl⟩ -
 have hL:(mksHd k i++ys.drop i).length=ys.length:=by rw [List.length_append,mksHd_len,List.length_drop]; omega
 have hstep:=fun h:i<ys.length=>mksHd_step (k:=k) h
 have hfin:i=ys.length→mksHd k i++ys.drop i=mksHd k ys.length:=by rintro rfl; simp
 generalize mksHd k i++ys.drop i=L at *
 rcases Nat.lt_or_ge i ys.length with hlt|hge
 ·have e:(L.set i (mkHd (k+10 * i)))=_:=hstep hlt
  have hL0:L=L.set i (L.getD i default):=by
   rw [List.getD_eq_getElem?_getD,List.getElem?_eq_getElem (by omega)]
   simp
  generalize L.getD i default=x at *
  have hq:[OB.arr 111 10 (L.map Hd.pv)]=[OB.arr 111 10 ((L.set i x).map Hd.pv)]:=by rw [← hL0]
  rw [hq]
  clear hq hL0 hstep hfin
  repeat' (first|refine sA ?_|refine sN ?_|(refine puts_Hd0 (by first|omega|(simp; omega)) rfl ?_)|(refine puts_Hd1 (by first|omega|(simp; omega)) rfl ?_)|(refine puts_Hd2 (by first|omega|(simp; omega)) rfl ?_)|(refine puts_Hd3 (by first|omega|(simp; omega)) rfl ?_)|(refine puts_Hd4 (by first|omega|(simp; omega)) rfl ?_)|(refine puts_Hd5 (by first|omega|(simp; omega)) rfl ?_)|(refine puts_Hd6 (by first|omega|(simp; omega)) rfl ?_)|(refine puts_Hd7 (by first|omega|(simp; omega)) rfl ?_)|(refine puts_Hd8 (by first|omega|(simp; omega)) rfl ?_)|(refine puts_Hd9 (by first|omega|(simp; omega)) rfl ?_)|refine sB ?_|refine sX ?_ ?_<;>(try intro h)<;>(try omega)|exact sP|refine rK ?_|exact sQ|refine sD ?_|rfl|exact sE|omega)
  refine Xm_inv_n (ys.length - (i+1)) (by omega) ⟨i+1,by omega,rfl,?_,?_⟩
  ·rw [show k+10 * ((i+1:Nat):Int)=k+10 * i+1+1+1+1+1+1+1+1+1+1 from by omega]
   rfl
  ·rw [← e]
   rfl
 ·obtain rfl:i=ys.length:=by omega
  rw [hfin rfl]
  repeat' (first|refine sA ?_|refine sN ?_|exact ret_gen _ _ _ rfl rfl rfl ⟨rfl,rfl⟩|refine sB ?_|refine sX ?_ ?_<;>(try intro h)<;>(try omega)|exact sP|refine rK ?_|exact sQ|refine sD ?_|rfl|exact sE|omega)
theorem k_markHeard0 (j:Nat)(k:Int):Okv Tryz.prog 93 [.sl j [],.int .i64 k] (.p (.int .i64 k)):=by
 refine ok_D hmix c_laws_markHeardS (by simp) ?_
 refine sA ?_
 refine Dm_loop [0,1,5] (fun m ds H'=>ds=[.p (.sl j []),.p (.int .i64 k),.p (.int .i64 0)]∧H'=[]) 0 ⟨rfl,rfl⟩ ?_
 rintro m ds H' ⟨rfl,rfl⟩ -
 repeat' (first|refine sA ?_|refine sN ?_|refine sB ?_|refine sX ?_ ?_<;>(try intro h)<;>(try omega)|exact sP|refine rK ?_|exact sQ|refine sD ?_|rfl|exact sE|omega)
theorem k_heldHeard0 (j:Nat)(k:Int)(_:0<k):Okv Tryz.prog 121 [.sl j [],.int .i64 k] (.p (.int .i64 k)):=by
 refine ok_D hmix c_laws_heldHeardS (by simp) ?_
 refine sA ?_
 refine Dm_loop [0,1,5] (fun m ds H'=>ds=[.p (.sl j []),.p (.int .i64 k),.p (.int .i64 0)]∧H'=[]) 0 ⟨rfl,rfl⟩ ?_
 rintro m ds H' ⟨rfl,rfl⟩ -
 repeat' (first|refine sA ?_|refine sN ?_|refine sB ?_|refine sX ?_ ?_<;>(try intro h)<;>(try omega)|exact sP|refine rK ?_|exact sQ|refine sD ?_|rfl|exact sE|omega)
theorem k_heldHeardS (n:Nat)(k:Int)(hb:n≤1048576)(hk:0<k∧k≤1099511627776):Okv Tryz.prog 121 [.sl 10 ((mksHd k n).map Hd.pv),.int .i64 k] (.p (.int .i64 (k+10 * n))):=by
 refine ok_D hmix c_laws_heldHeardS (by simp) ?_
 have hl:(mksHd k n).length=n:=mksHd_len
 refine sA ?_
 refine Dm_loop [0,1,5] (fun m ds H' => ∃ i:Nat,i≤n∧m=n - i∧ds=[.p (.sl 10 ((mksHd k n).map Hd.pv)),.p (.int .i64 (k+10 * i)),.p (.int .i64 i)]∧H'=[]) n ⟨0,by simp,by simp,by simp; rfl,rfl⟩ ?_
 rintro m ds H' ⟨i,hi,rfl,rfl,rfl⟩ -
 have hg:=fun h:i<n=>mksHd_get (k:=k) h
 generalize mksHd k n=L at *
 generalize hx:L.getD i default=x at *
 have hx0:i<n→x.addr=(k+10 * i):=fun h=>congrArg Hd.addr (hg h)
 have hx1:i<n→x.eo=(((k+10 * i)+1).tmod 3 == 0):=fun h=>congrArg Hd.eo (hg h)
 have hx2:i<n→x.ea=(k+10 * i)+1+1:=fun h=>congrArg Hd.ea (hg h)
 have hx3:i<n→x.eb=(k+10 * i)+1+1+1:=fun h=>congrArg Hd.eb (hg h)
 have hx4:i<n→x.eAt=(k+10 * i)+1+1+1+1:=fun h=>congrArg Hd.eAt (hg h)
 have hx5:i<n→x.oo=(((k+10 * i)+1+1+1+1+1).tmod 3 == 0):=fun h=>congrArg Hd.oo (hg h)
 have hx6:i<n→x.oa=(k+10 * i)+1+1+1+1+1+1:=fun h=>congrArg Hd.oa (hg h)
 have hx7:i<n→x.ob=(k+10 * i)+1+1+1+1+1+1+1:=fun h=>congrArg Hd.ob (hg h)
 have hx8:i<n→x.oAt=(k+10 * i)+1+1+1+1+1+1+1+1:=fun h=>congrArg Hd.oAt (hg h)
 have hx9:i<n→x.fr=(k+10 * i)+1+1+1+1+1+1+1+1+1:=fun h=>congrArg Hd.fr (hg h)
 repeat' (first|refine sA ?_|refine sN ?_|rw [hx]|rw [hx0 (by omega)]|rw [hx1 (by omega)]|rw [hx2 (by omega)]|rw [hx3 (by omega)]|rw [hx4 (by omega)]|rw [hx5 (by omega)]|rw [hx6 (by omega)]|rw [hx7 (by omega)]|rw [hx8 (by omega)]|rw [hx9 (by omega)]|refine sB ?_|refine sX ?_ ?_<;>(try intro h)<;>(try omega)|exact sP|refine rK ?_|exact sQ|refine sD ?_|rfl|exact sE|omega)
 ·refine Xm_inv_n (n - (i+1)) (by omega) ⟨i+1,by omega,rfl,?_,rfl⟩
  rw [show k+10 * ((i+1:Nat):Int)=k+10 * i+1+1+1+1+1+1+1+1+1+1 from by omega]
  rfl
def mkAl (q:Int):Al:=⟨q,q+1,q+1+1,q+1+1+1,((q+1+1+1+1).tmod 3 == 0)⟩
def mksAl (k:Int)(n:Nat):List Al:=(List.range n).map fun i:Nat=>mkAl (k+5 * i)
theorem mksAl_len {k:Int}{n:Nat}:(mksAl k n).length=n:=by simp [mksAl]
attribute [simp] mksAl_len
theorem mksAl_get {k:Int}{n i:Nat}(h:i<n):(mksAl k n).getD i default=mkAl (k+5 * i):=by simp [mksAl,List.getD_eq_getElem?_getD,h]
theorem mksAl_succ {k:Int}{n:Nat}:mksAl k (n+1)=mksAl k n++[mkAl (k+5 * n)]:=by simp [mksAl,List.range_succ]
theorem mksAl_step {k:Int}{ys:List Al}{i:Nat}(h:i<ys.length):(mksAl k i++ys.drop i).set i (mkAl (k+5 * i))=mksAl k (i+1)++ys.drop (i+1):=by
 rw [List.set_append_right _ _ (by rw [mksAl_len]; omega),mksAl_len,Nat.sub_self,mksAl_succ,List.append_assoc]
 congr 1
 rw [List.drop_eq_getElem_cons h]
 rfl
theorem put_Al0 {M:Md}{q:Bool}{d:Option Nat}{os:List GOp}{s:Stk}{env:Env}{H:Heap}{i j t:Nat}{a:Int}{xs:List Al}(h:j<xs.length)(hg:H[i]? = some (.arr t 5 (xs.map Al.pv)))
  (h2:Sm M q (asked d os) .undef d os s env (setL H i (.arr t 5 ((xs.set j {xs.getD j default with low:=a}).map Al.pv)))):Rm M q (.put i ((xs.map Al.pv)[j]?) j 0 1 (.int .i64 a) H) d os s env :=
 Rm_putw h _ rfl rfl hg h2
theorem put_Al1 {M:Md}{q:Bool}{d:Option Nat}{os:List GOp}{s:Stk}{env:Env}{H:Heap}{i j t:Nat}{a:Int}{xs:List Al}(h:j<xs.length)(hg:H[i]? = some (.arr t 5 (xs.map Al.pv)))
  (h2:Sm M q (asked d os) .undef d os s env (setL H i (.arr t 5 ((xs.set j {xs.getD j default with high:=a}).map Al.pv)))):Rm M q (.put i ((xs.map Al.pv)[j]?) j 1 1 (.int .i64 a) H) d os s env :=
 Rm_putw h _ rfl rfl hg h2
theorem put_Al2 {M:Md}{q:Bool}{d:Option Nat}{os:List GOp}{s:Stk}{env:Env}{H:Heap}{i j t:Nat}{a:Int}{xs:List Al}(h:j<xs.length)(hg:H[i]? = some (.arr t 5 (xs.map Al.pv)))
  (h2:Sm M q (asked d os) .undef d os s env (setL H i (.arr t 5 ((xs.set j {xs.getD j default with lvl:=a}).map Al.pv)))):Rm M q (.put i ((xs.map Al.pv)[j]?) j 2 1 (.int .i64 a) H) d os s env :=
 Rm_putw h _ rfl rfl hg h2
theorem put_Al3 {M:Md}{q:Bool}{d:Option Nat}{os:List GOp}{s:Stk}{env:Env}{H:Heap}{i j t:Nat}{a:Int}{xs:List Al}(h:j<xs.length)(hg:H[i]? = some (.arr t 5 (xs.map Al.pv)))
  (h2:Sm M q (asked d os) .undef d os s env (setL H i (.arr t 5 ((xs.set j {xs.getD j default with since:=a}).map Al.pv)))):Rm M q (.put i ((xs.map Al.pv)[j]?) j 3 1 (.int .i64 a) H) d os s env :=
 Rm_putw h _ rfl rfl hg h2
theorem put_Al4 {M:Md}{q:Bool}{d:Option Nat}{os:List GOp}{s:Stk}{env:Env}{H:Heap}{i j t:Nat}{a:Bool}{xs:List Al}(h:j<xs.length)(hg:H[i]? = some (.arr t 5 (xs.map Al.pv)))
  (h2:Sm M q (asked d os) .undef d os s env (setL H i (.arr t 5 ((xs.set j {xs.getD j default with seen:=a}).map Al.pv)))):Rm M q (.put i ((xs.map Al.pv)[j]?) j 4 1 (.bool a) H) d os s env :=
 Rm_putw h _ rfl rfl hg h2
theorem puts_Al0 {M:Md}{q:Bool}{d:Option Nat}{os:List GOp}{s:Stk}{env:Env}{H:Heap}{i j t:Nat}{a:Int}{xs:List Al}{x:Al}(h:j<xs.length)(hg:H[i]? = some (.arr t 5 ((xs.set j x).map Al.pv)))
  (h2:Sm M q (asked d os) .undef d os s env (setL H i (.arr t 5 ((xs.set j {x with low:=a}).map Al.pv)))):Rm M q (.put i (((xs.set j x).map Al.pv)[j]?) j 0 1 (.int .i64 a) H) d os s env:=by
 refine put_Al0 (by rw [List.length_set]; exact h) hg ?_
 rw [List.set_set,getD_set h]
 exact h2
theorem puts_Al1 {M:Md}{q:Bool}{d:Option Nat}{os:List GOp}{s:Stk}{env:Env}{H:Heap}{i j t:Nat}{a:Int}{xs:List Al}{x:Al}(h:j<xs.length)(hg:H[i]? = some (.arr t 5 ((xs.set j x).map Al.pv)))
  (h2:Sm M q (asked d os) .undef d os s env (setL H i (.arr t 5 ((xs.set j {x with high:=a}).map Al.pv)))):Rm M q (.put i (((xs.set j x).map Al.pv)[j]?) j 1 1 (.int .i64 a) H) d os s env:=by
 refine put_Al1 (by rw [List.length_set]; exact h) hg ?_
 rw [List.set_set,getD_set h]
 exact h2
theorem puts_Al2 {M:Md}{q:Bool}{d:Option Nat}{os:List GOp}{s:Stk}{env:Env}{H:Heap}{i j t:Nat}{a:Int}{xs:List Al}{x:Al}(h:j<xs.length)(hg:H[i]? = some (.arr t 5 ((xs.set j x).map Al.pv)))
  (h2:Sm M q (asked d os) .undef d os s env (setL H i (.arr t 5 ((xs.set j {x with lvl:=a}).map Al.pv)))):Rm M q (.put i (((xs.set j x).map Al.pv)[j]?) j 2 1 (.int .i64 a) H) d os s env:=by
 refine put_Al2 (by rw [List.length_set]; exact h) hg ?_
 rw [List.set_set,getD_set h]
 exact h2
theorem puts_Al3 {M:Md}{q:Bool}{d:Option Nat}{os:List GOp}{s:Stk}{env:Env}{H:Heap}{i j t:Nat}{a:Int}{xs:List Al}{x:Al}(h:j<xs.length)(hg:H[i]? = some (.arr t 5 ((xs.set j x).map Al.pv)))
  (h2:Sm M q (asked d os) .undef d os s env (setL H i (.arr t 5 ((xs.set j {x with since:=a}).map Al.pv)))):Rm M q (.put i (((xs.set j x).map Al.pv)[j]?) j 3 1 (.int .i64 a) H) d os s env:=by
 refine put_Al3 (by rw [List.length_set]; exact h) hg ?_
 rw [List.set_set,getD_set h]
 exact h2
theorem puts_Al4 {M:Md}{q:Bool}{d:Option Nat}{os:List GOp}{s:Stk}{env:Env}{H:Heap}{i j t:Nat}{a:Bool}{xs:List Al}{x:Al}(h:j<xs.length)(hg:H[i]? = some (.arr t 5 ((xs.set j x).map Al.pv)))
  (h2:Sm M q (asked d os) .undef d os s env (setL H i (.arr t 5 ((xs.set j {x with seen:=a}).map Al.pv)))):Rm M q (.put i (((xs.set j x).map Al.pv)[j]?) j 4 1 (.bool a) H) d os s env:=by
 refine put_Al4 (by rw [List.length_set]; exact h) hg ?_
 rw [List.set_set,getD_set h]
 exact h2
theorem k_markAlertS (ys:List Al)(k:Int)(hb:ys.length≤1048576)(hk:0<k∧k≤1099511627776):Ok Tryz.prog 51 [.own 0 0 ys.length,.p (.int .i64 k)] [.arr 114 5 (ys.map Al.pv)]
  fun d H=>d = .p (.int .i64 (k+5 * ys.length))∧H=[.arr 114 5 ((mksAl k ys.length).map Al.pv)]:=by
 refine ok_D hmix c_laws_markAlertS (by simp) ?_
 refine sA ?_
 refine Dm_loop [0,1,5] (fun m ds H' => ∃ i:Nat,i≤ys.length∧m=ys.length - i∧ds=[.own 0 0 ys.length,.p (.int .i64 (k+5 * i)),.p (.int .i64 i)]∧H'=[.arr 114 5 ((mksAl k i++ys.drop i).map Al.pv)]) ys.length ⟨0,by simp,by simp,by simp; rfl,rfl⟩ ?_
 rintro m ds H' ⟨i,hi,rfl,rfl,rfl⟩ -
 have hL:(mksAl k i++ys.drop i).length=ys.length:=by rw [List.length_append,mksAl_len,List.length_drop]; omega
 have hstep:=fun h:i<ys.length=>mksAl_step (k:=k) h
 have hfin:i=ys.length→mksAl k i++ys.drop i=mksAl k ys.length:=by rintro rfl; simp
 generalize mksAl k i++ys.drop i=L at *
 rcases Nat.lt_or_ge i ys.length with hlt|hge
 ·have e:(L.set i (mkAl (k+5 * i)))=_:=hstep hlt
  have hL0:L=L.set i (L.getD i default):=by
   rw [List.getD_eq_getElem?_getD,List.getElem?_eq_getElem (by omega)]
   simp
  generalize L.getD i default=x at *
  have hq:[OB.arr 114 5 (L.map Al.pv)]=[OB.arr 114 5 ((L.set i x).map Al.pv)]:=by rw [← hL0]
  rw [hq]
  clear hq hL0 hstep hfin
  repeat' (first|refine sA ?_|refine sN ?_|(refine puts_Al0 (by first|omega|(simp; omega)) rfl ?_)|(refine puts_Al1 (by first|omega|(simp; omega)) rfl ?_)|(refine puts_Al2 (by first|omega|(simp; omega)) rfl ?_)|(refine puts_Al3 (by first|omega|(simp; omega)) rfl ?_)|(refine puts_Al4 (by first|omega|(simp; omega)) rfl ?_)|refine sB ?_|refine sX ?_ ?_<;>(try intro h)<;>(try omega)|exact sP|refine rK ?_|exact sQ|refine sD ?_|rfl|exact sE|omega)
  refine Xm_inv_n (ys.length - (i+1)) (by omega) ⟨i+1,by omega,rfl,?_,?_⟩
  ·rw [show k+5 * ((i+1:Nat):Int)=k+5 * i+1+1+1+1+1 from by omega]
   rfl
  ·rw [← e]
   rfl
 ·obtain rfl:i=ys.length:=by omega
  rw [hfin rfl]
  repeat' (first|refine sA ?_|refine sN ?_|exact ret_gen _ _ _ rfl rfl rfl ⟨rfl,rfl⟩|refine sB ?_|refine sX ?_ ?_<;>(try intro h)<;>(try omega)|exact sP|refine rK ?_|exact sQ|refine sD ?_|rfl|exact sE|omega)
theorem k_markAlert0 (j:Nat)(k:Int):Okv Tryz.prog 51 [.sl j [],.int .i64 k] (.p (.int .i64 k)):=by
 refine ok_D hmix c_laws_markAlertS (by simp) ?_
 refine sA ?_
 refine Dm_loop [0,1,5] (fun m ds H'=>ds=[.p (.sl j []),.p (.int .i64 k),.p (.int .i64 0)]∧H'=[]) 0 ⟨rfl,rfl⟩ ?_
 rintro m ds H' ⟨rfl,rfl⟩ -
 repeat' (first|refine sA ?_|refine sN ?_|refine sB ?_|refine sX ?_ ?_<;>(try intro h)<;>(try omega)|exact sP|refine rK ?_|exact sQ|refine sD ?_|rfl|exact sE|omega)
theorem k_heldAlert0 (j:Nat)(k:Int)(_:0<k):Okv Tryz.prog 62 [.sl j [],.int .i64 k] (.p (.int .i64 k)):=by
 refine ok_D hmix c_laws_heldAlertS (by simp) ?_
 refine sA ?_
 refine Dm_loop [0,1,5] (fun m ds H'=>ds=[.p (.sl j []),.p (.int .i64 k),.p (.int .i64 0)]∧H'=[]) 0 ⟨rfl,rfl⟩ ?_
 rintro m ds H' ⟨rfl,rfl⟩ -
 repeat' (first|refine sA ?_|refine sN ?_|refine sB ?_|refine sX ?_ ?_<;>(try intro h)<;>(try omega)|exact sP|refine rK ?_|exact sQ|refine sD ?_|rfl|exact sE|omega)
theorem k_heldAlertS (n:Nat)(k:Int)(hb:n≤1048576)(hk:0<k∧k≤1099511627776):Okv Tryz.prog 62 [.sl 5 ((mksAl k n).map Al.pv),.int .i64 k] (.p (.int .i64 (k+5 * n))):=by
 refine ok_D hmix c_laws_heldAlertS (by simp) ?_
 have hl:(mksAl k n).length=n:=mksAl_len
 refine sA ?_
 refine Dm_loop [0,1,5] (fun m ds H' => ∃ i:Nat,i≤n∧m=n - i∧ds=[.p (.sl 5 ((mksAl k n).map Al.pv)),.p (.int .i64 (k+5 * i)),.p (.int .i64 i)]∧H'=[]) n ⟨0,by simp,by simp,by simp; rfl,rfl⟩ ?_
 rintro m ds H' ⟨i,hi,rfl,rfl,rfl⟩ -
 have hg:=fun h:i<n=>mksAl_get (k:=k) h
 generalize mksAl k n=L at *
 generalize hx:L.getD i default=x at *
 have hx0:i<n→x.low=(k+5 * i):=fun h=>congrArg Al.low (hg h)
 have hx1:i<n→x.high=(k+5 * i)+1:=fun h=>congrArg Al.high (hg h)
 have hx2:i<n→x.lvl=(k+5 * i)+1+1:=fun h=>congrArg Al.lvl (hg h)
 have hx3:i<n→x.since=(k+5 * i)+1+1+1:=fun h=>congrArg Al.since (hg h)
 have hx4:i<n→x.seen=(((k+5 * i)+1+1+1+1).tmod 3 == 0):=fun h=>congrArg Al.seen (hg h)
 repeat' (first|refine sA ?_|refine sN ?_|rw [hx]|rw [hx0 (by omega)]|rw [hx1 (by omega)]|rw [hx2 (by omega)]|rw [hx3 (by omega)]|rw [hx4 (by omega)]|refine sB ?_|refine sX ?_ ?_<;>(try intro h)<;>(try omega)|exact sP|refine rK ?_|exact sQ|refine sD ?_|rfl|exact sE|omega)
 ·refine Xm_inv_n (n - (i+1)) (by omega) ⟨i+1,by omega,rfl,?_,rfl⟩
  rw [show k+5 * ((i+1:Nat):Int)=k+5 * i+1+1+1+1+1 from by omega]
  rfl
theorem k_markReceiver (n:Int)(xs:List Hd)(k:Int)(hb:xs.length≤1048576)(hk:0<k∧k≤1099511627776):Ok Tryz.prog 50 [.agg [.p (.int .i64 n),.own 0 0 xs.length],.p (.int .i64 k)] [.arr 111 10 (xs.map Hd.pv)]
  fun d H=>d = .p (.int .i64 (k+10 * xs.length))∧H=[.arr 111 10 ((mksHd k xs.length).map Hd.pv)]:=by
 refine ok_D hmix c_laws_markReceiver (by simp) ?_
 have h1:=k_markHeardS xs k hb hk
 refine sA ?_
 repeat' (first|refine sA ?_|refine sN ?_|(refine Rm_i [0] h1 (by simp) (by simp) ⟨_,_,rfl,.inl rfl,_,_,rfl,.inl rfl,rfl⟩ (fun r H2 hh => ?_); obtain ⟨rfl,rfl⟩:=hh)|refine sB ?_|refine sX ?_ ?_<;>(try intro h)<;>(try omega)|exact sP|refine rK ?_|exact sQ|refine sD ?_|rfl|exact sE|omega)
 all_goals skip
theorem k_heldReceiver (m:Int)(n:Nat)(k:Int)(hb:n≤1048576)(hk:0<k∧k≤1099511627776):Okv Tryz.prog 61 [.agg [.int .i64 m,.sl 10 ((mksHd k n).map Hd.pv)],.int .i64 k] (.p (.int .i64 (k+10 * n))):=by
 refine ok_D hmix c_laws_heldReceiver (by simp) ?_
 have h1:=k_heldHeardS n k hb hk
 generalize (mksHd k n).map Hd.pv=L at *
 refine sA ?_
 repeat' (first|refine sA ?_|refine sN ?_|refine rW rfl (h1) ?_|refine rV (h1) ?_|refine sB ?_|refine sX ?_ ?_<;>(try intro h)<;>(try omega)|exact sP|refine rK ?_|exact sQ|refine sD ?_|rfl|exact sE|omega)
 all_goals skip
def csM (c:Cs)(k:Int):Cs:={ c with hl:=mksHd k c.hl.length,al:=mksAl (k+10 * c.hl.length) c.al.length }
theorem k_markConsole (c:Cs)(k:Int)(h1:c.hl.length≤1048576)(h2:c.al.length≤1048576)(hk:0<k∧k≤1000000000):Ok Tryz.prog 15 [c.dv 0 1,.p (.int .i64 k)] c.rows
  fun d H=>d = .p (.int .i64 (k+10 * c.hl.length+5 * c.al.length))∧H=(csM c k).rows:=by
 refine ok_D hmix c_laws_markConsole (by simp) ?_
 have a1:=k_markReceiver c.mn c.hl k h1 (by omega)
 have a2:=k_markAlertS c.al (k+10 * c.hl.length) h2 (by omega)
 rw [cs_dv,cs_rows]
 have hq:(csM c k).rows=[.arr 111 10 ((mksHd k c.hl.length).map Hd.pv),.arr 114 5 ((mksAl (k+10 * c.hl.length) c.al.length).map Al.pv)]:=rfl
 rw [hq]
 generalize (mksHd k c.hl.length).map Hd.pv=L at *
 generalize (mksAl (k+10 * c.hl.length) c.al.length).map Al.pv=L2 at *
 refine sA ?_
 repeat' (first|refine sA ?_|refine sN ?_|(refine Rm_i [0] a1 (by simp) (by simp) ⟨_,_,rfl,.inl rfl,_,_,rfl,.inl rfl,rfl⟩ (fun r H2 hh => ?_); obtain ⟨rfl,rfl⟩:=hh)|(refine Rm_i [1] a2 (by simp) (by simp) ⟨_,_,rfl,.inl rfl,_,_,rfl,.inl rfl,rfl⟩ (fun r H2 hh => ?_); obtain ⟨rfl,rfl⟩:=hh)|refine sB ?_|refine sX ?_ ?_<;>(try intro h)<;>(try omega)|exact sP|refine rK ?_|exact sQ|refine sD ?_|rfl|exact sE|omega)
 all_goals skip
theorem k_heldConsole (c:Cs)(k:Int)(h1:c.hl.length≤1048576)(h2:c.al.length≤1048576)(hk:0<k∧k≤1000000000):Okv Tryz.prog 20 [(csM c k).pv,.int .i64 k] (.p (.int .i64 (k+10 * c.hl.length+5 * c.al.length))):=by
 refine ok_D hmix c_laws_heldConsole (by simp) ?_
 have a1:=k_heldReceiver c.mn c.hl.length k h1 (by omega)
 have a2:=k_heldAlertS c.al.length (k+10 * c.hl.length) h2 (by omega)
 have hq:(csM c k).pv = .agg [.int .i64 c.mn,.sl 10 ((mksHd k c.hl.length).map Hd.pv),.sl 5 ((mksAl (k+10 * c.hl.length) c.al.length).map Al.pv),.str c.lg.dur,.str c.lg.pend,.int .i64 c.lg.cnt]:=rfl
 rw [hq]
 generalize (mksHd k c.hl.length).map Hd.pv=L at *
 generalize (mksAl (k+10 * c.hl.length) c.al.length).map Al.pv=L2 at *
 refine sA ?_
 repeat' (first|refine sA ?_|refine sN ?_|refine rW rfl (a1) ?_|refine rV (a1) ?_|refine rW rfl (a2) ?_|refine rV (a2) ?_|refine sB ?_|refine sX ?_ ?_<;>(try intro h)<;>(try omega)|exact sP|refine rK ?_|exact sQ|refine sD ?_|rfl|exact sE|omega)
 all_goals skip
end Go.Proofs.YtekmkgegjicjgaaGreat
