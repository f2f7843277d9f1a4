/-
 The contracts, one after another. Conditions: none; printed by a program of our own.
-/
import Derived.Test.YtccbjhfdfbaekaaGreatNumJAll
import Derived.Test.YtccbjhfdfbaekaaGreatNumFb
import Derived.Test.YtccbjhfdfbaekaaGreatNumFc
import Derived.Test.YtccbjhfdfbaekaaGreatRunZ
namespace Go.Sx.N
open Go.Proofs
theorem akw : aQ b1 := aW (jE.none fun _ _ h _ _ => by unfold pms at h; cases h) akx ahK rfl rfl
theorem aky : aQ b2 := aW akw akz ahL rfl rfl
theorem akA : aQ b3 := aW aky akB ahM rfl rfl
theorem amR : aQ b4 := aW akA amS akC rfl rfl
theorem akD : aQ b5 := aW amR akE ahN rfl rfl
theorem afo : aQ b6 := aW akD afp adp rfl rfl
theorem amT : aQ b7 := aW afo amU akF rfl rfl
theorem amV : aQ b8 := aW amT amW akG rfl rfl
theorem ahO : aQ b9 := aW amV ahP afq rfl rfl
theorem amX : aQ b10 := aW ahO amY akH rfl rfl
theorem akI : aQ b11 := aW amX akJ ahQ rfl rfl
theorem afr : aQ b12 := aW akI afs adq rfl rfl
theorem XA : aQ b13 := aW afr XB UZ rfl rfl
theorem aft : aQ b14 := aW XA afu ads rfl rfl
theorem ahR : aQ b15 := aW aft ahS afv rfl rfl
theorem amZ : aQ b16 := aW ahR am0 akK rfl rfl
theorem adt : aQ b17 := aW amZ adu aa6 rfl rfl
theorem Zg : aQ b18 := aW adt Zh XC rfl rfl
theorem Sm : aQ b19 := aW Zg Sr Qk rfl rfl
theorem am1 : aQ b20 := aW Sm am2 akL rfl rfl
theorem akM : aQ EW := aW am1 akN ahT rfl rfl
theorem akO : aQ b22 := aW akM akP ahU rfl rfl
theorem afw : aQ rM := aW akO afx adv rfl rfl
theorem ahV : aQ b24 := aW afw ahW afy rfl rfl
theorem aa7 : aQ b25 := aW ahV aa8 Zi rfl rfl
theorem adw : aQ b26 := aW aa7 ady aa9 rfl rfl
theorem am3 : aQ b27 := aW adw am4 akQ rfl rfl
theorem ahX : aQ b28 := aW am3 ahY afz rfl rfl
theorem ao9 : aQ b29 := aW ahX apa am5 rfl rfl
theorem am6 : aQ b30 := aW ao9 am7 akR rfl rfl
theorem am8 : aQ b31 := aW am6 am9 akS rfl rfl
theorem afA : aQ b32 := aW am8 afB adz rfl rfl
theorem ana : aQ b33 := aW afA anb akT rfl rfl
theorem anc : aQ rO := aW ana ane akU rfl rfl
theorem adA : aQ Sv := aW anc adB abb rfl rfl
theorem adC : aQ b36 := aW adA adD abd rfl rfl
theorem akV : aQ Zj := aW adC akW ahZ rfl rfl
theorem ah0 : aQ b38 := aW akV ah1 afC rfl rfl
theorem afD : aQ BZ := aW ah0 afE adE rfl rfl
theorem ah2 : aQ Gg := aW afD ah3 afF rfl rfl
theorem ah4 : aQ zC := aW ah2 ah5 afG rfl rfl
theorem abe : aQ Af := aW ah4 abf Zk rfl rfl
theorem adF : aQ L6 := aW abe adG abg rfl rfl
theorem anf : aQ Zl := aW adF ang akX rfl rfl
theorem anh : aQ pK := aW anf ani akY rfl rfl
theorem anj : aQ b46 := aW anh ank akZ rfl rfl
theorem anl : aQ Ag := aW anj anm ak0 rfl rfl
theorem ano : aQ b48 := aW anl anp ak1 rfl rfl
theorem ah6 : aQ b49 := aW ano ah7 afH rfl rfl
theorem ah8 : aQ Hy := aW ah6 ah9 afI rfl rfl
theorem ak2 : aQ b51 := aW ah8 ak3 aia rfl rfl
theorem anq : aQ Pg := aW ak2 anr ak4 rfl rfl
theorem ak5 : aQ b53 := aW anq ak6 aib rfl rfl
theorem adH : aQ b54 := aW ak5 adI abh rfl rfl
theorem ak7 : aQ b55 := aW adH ak8 aic rfl rfl
theorem aie : aQ b56 := aW ak7 aif afJ rfl rfl
theorem aii : aQ b57 := aW aie aij afK rfl rfl
theorem aik : aQ b58 := aW aii ail afL rfl rfl
theorem ant : aQ Sz := aW aik anu ak9 rfl rfl
theorem apb : aQ b60 := aW ant apc Zm rfl rfl
theorem ain : aQ SA := aW apb aio L8 rfl rfl
theorem ala : aQ b62 := aW ain alb Ql rfl rfl
theorem aip : aQ b63 := aW ala aiq L9 rfl rfl
theorem anv : aQ b64 := aW aip anw U0 rfl rfl
theorem air : aQ uG := aW anv ais Mc rfl rfl
theorem anx : aQ b66 := aW air anz U1 rfl rfl
theorem ait : aQ uH := aW anx aiu Md rfl rfl
theorem aiv : aQ b68 := aW ait aiw afM rfl rfl
theorem aix : aQ b69 := aW aiv aiy afN rfl rfl
theorem afO : aQ rP := aW aix afP adJ rfl rfl
theorem apd : aQ b71 := aW afO ape anA rfl rfl
theorem aiz : aQ b72 := aW apd aiA afQ rfl rfl
theorem afR : aQ b73 := aW aiz afS adK rfl rfl
theorem alc : aQ b74 := aW afR ald aiB rfl rfl
theorem ale : aQ b75 := aW alc alf aiC rfl rfl
theorem XD : aQ b76 := aW ale XE U2 rfl rfl
theorem XF : aQ b77 := aW XD XG U3 rfl rfl
theorem anB : aQ b78 := aW XF anC alg rfl rfl
theorem alh : aQ Zn := aW anB ali aiD rfl rfl
theorem adL : aQ b80 := aW alh adM abj rfl rfl
theorem abk : aQ Zo := aW adL abl Zp rfl rfl
theorem aiE : aQ b82 := aW abk aiF afT rfl rfl
theorem Zq : aQ b83 := aW aiE Zr XH rfl rfl
theorem adN : aQ Zt := aW Zq adO abm rfl rfl
theorem alj : aQ b85 := aW adN alk aiG rfl rfl
theorem anD : aQ b86 := aW alj anE alm rfl rfl
theorem abn : aQ b87 := aW anD abo Zu rfl rfl
theorem afU : aQ b88 := aW abn afV adP rfl rfl
theorem anF : aQ b89 := aW afU anG aln rfl rfl
theorem aiH : aQ b90 := aW anF aiI afW rfl rfl
theorem alo : aQ Zv := aW aiH alp aiJ rfl rfl
theorem apf : aQ b92 := aW alo apg anH rfl rfl
theorem anI : aQ SB := aW apf anJ alq rfl rfl
theorem anK : aQ b94 := aW anI anL alr rfl rfl
theorem aiK : aQ b95 := aW anK aiL afX rfl rfl
theorem alu : aQ Zw := aW aiK alv aiM rfl rfl
theorem adQ : aQ b97 := aW alu adR abp rfl rfl
theorem afY : aQ b98 := aW adQ afZ adS rfl rfl
theorem aiN : aQ b99 := aW afY aiO af0 rfl rfl
theorem aiP : aQ zD := aW aiN aiQ af2 rfl rfl
theorem aiR : aQ U4 := aW aiP aiS af4 rfl rfl
theorem aeU : aQ Jb := aW aiR anM alx rfl rfl
end Go.Sx.N
